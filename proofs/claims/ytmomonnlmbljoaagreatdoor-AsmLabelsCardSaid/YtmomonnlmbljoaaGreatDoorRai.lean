import Derived.Test.YtmomonnlmbljoaaGreatDoorRah
section
namespace Go.V
open Go.RowKit (Below)
section
variable {P:Program} {T:Tab} {B0:Nat} {w0:Base} {w:World} {K:KM} {s s':S} {a:Act} {fr:List Value} {v:Value}
structure Trace (P:Program) (T:Tab) (call:Nat→List Value→M Value) (L:List Oper) (feet:List (List Nat×List Nat)) (C:Nat→Nat) (H:Nat→Trie VObj) (FR:Nat→List Value) (k n:Nat):Prop where
 op:∀ i,k≤i→i<n→∃ o ft,L[i]?=some o∧feet[i - k]?=some ft ∧
  ((M6 L (FR i) o=true∧∃ v,M7 P T call (FR i) o.op ⟨C i,H i, [], []⟩=some (v,⟨C (i+1),H (i+1),ft.1,ft.2⟩)∧FR (i+1)=G5 (FR i) o v) ∨
   (M6 L (FR i) o=false∧ft=([], [])∧C (i+1)=C i∧H (i+1)=H i∧FR (i+1)=G5 (FR i) o undef))
theorem c4O {call:Nat→List Value→M Value} (L:List Oper):∀ (m k:Nat) (fr fr':List Value) (s s':S) (feet:List (List Nat×List Nat)),k+m=L.length →
 O4 P T call L (L.drop k) fr s=some ((fr',feet),s')→feet.length=m ∧
 ∃ C H FR,C k=s.c∧H k=s.h∧FR k=fr∧C (k+m)=s'.c∧H (k+m)=s'.h∧FR (k+m)=fr'∧Trace P T call L feet C H FR k (k+m):=by
 intro m
 induction m with
 | zero=>
   intro k fr fr' s s' feet hk h
   have:L.drop k=[]:=List.drop_eq_nil_of_le (by omega)
   rw [this] at h
   have h':M.pure (fr,([]:List (List Nat×List Nat))) s=some ((fr',feet),s'):=h
   obtain ⟨e,rfl⟩:=o9 h'
   cases e
   exact ⟨rfl,fun _=>_,fun _=>_,fun _=>_,rfl,rfl,rfl,rfl,rfl,rfl,⟨fun i h1 h2=>by omega⟩⟩
 | succ m ih=>
   intro k fr fr' s s' feet hk h
   have hlt:k<L.length:=by omega
   rw [List.drop_eq_getElem_cons hlt,a0a] at h
   cases hw:M6 L fr L[k] with
   | true=>
     rw [hw] at h
     simp only [if_true] at h
     obtain ⟨x,s1,h1,h2⟩:=w9 h
     obtain ⟨y,s2,h3,h4⟩:=w9 h2
     obtain ⟨e,rfl⟩:=o9 h4
     obtain ⟨y1,y2⟩:=y
     cases e
     unfold M.foot at h1
     cases hst:M7 P T call fr L[k].op ⟨s.c,s.h, [], []⟩ with
     | none=>rw [hst] at h1; cases h1
     | some z=>
       obtain ⟨u,sz⟩:=z
       rw [hst] at h1
       simp only [I5] at h1
       cases h1
       obtain ⟨q0,C,H,FR,q1,q2,q3,q4,q5,q6,q7⟩:=ih (k+1) _ _ _ _ _ (by omega) h3
       dsimp only at q1 q2 q3
       refine ⟨by simp [q0],fun i=>if i=k then s.c else C i,fun i=>if i=k then s.h else H i,fun i=>if i=k then fr else FR i,by simp,by simp,by simp, ?_, ?_, ?_,⟨fun i h1 h2=>?_⟩⟩
       · dsimp only; rw [if_neg (by omega),show k+(m+1)=k+1+m by omega]; exact q4
       · dsimp only; rw [if_neg (by omega),show k+(m+1)=k+1+m by omega]; exact q5
       · dsimp only; rw [if_neg (by omega),show k+(m+1)=k+1+m by omega]; exact q6
       · by_cases hik:i=k
         · subst hik
           refine ⟨L[i],(sz.r,sz.w),List.getElem?_eq_getElem hlt,by simp,Or.inl ⟨by simpa using hw,u, ?_, ?_⟩⟩
           · simp only [if_true,if_neg (show ¬ i+1=i by omega),q1,q2]; exact hst
           · simp only [if_true,if_neg (show ¬ i+1=i by omega),q3]
         · obtain ⟨o,ft,t1,t2,t3⟩:=q7.op i (by omega) (by omega)
           refine ⟨o,ft,t1,by rw [show i - k=(i - (k+1))+1 by omega]; simpa using t2, ?_⟩
           simp only [if_neg hik,if_neg (show ¬ i+1=k by omega)]
           exact t3
   | false=>
     rw [hw] at h
     simp only [Bool.false_eq_true,if_false] at h
     obtain ⟨y,s2,h3,h4⟩:=w9 h
     obtain ⟨e,rfl⟩:=o9 h4
     obtain ⟨y1,y2⟩:=y
     cases e
     obtain ⟨q0,C,H,FR,q1,q2,q3,q4,q5,q6,q7⟩:=ih (k+1) _ _ _ _ _ (by omega) h3
     refine ⟨by simp [q0],fun i=>if i=k then s.c else C i,fun i=>if i=k then s.h else H i,fun i=>if i=k then fr else FR i,by simp,by simp,by simp, ?_, ?_, ?_,⟨fun i h1 h2=>?_⟩⟩
     · dsimp only; rw [if_neg (by omega),show k+(m+1)=k+1+m by omega]; exact q4
     · dsimp only; rw [if_neg (by omega),show k+(m+1)=k+1+m by omega]; exact q5
     · dsimp only; rw [if_neg (by omega),show k+(m+1)=k+1+m by omega]; exact q6
     · by_cases hik:i=k
       · subst hik
         refine ⟨L[i],([], []),List.getElem?_eq_getElem hlt,by simp,Or.inr ⟨by simpa using hw,rfl, ?_, ?_, ?_⟩⟩
         · simp only [if_true,if_neg (show ¬ i+1=i by omega),q1]
         · simp only [if_true,if_neg (show ¬ i+1=i by omega),q2]
         · simp only [if_true,if_neg (show ¬ i+1=i by omega),q3]
       · obtain ⟨o,ft,t1,t2,t3⟩:=q7.op i (by omega) (by omega)
         refine ⟨o,ft,t1,by rw [show i - k=(i - (k+1))+1 by omega]; simpa using t2, ?_⟩
         simp only [if_neg hik,if_neg (show ¬ i+1=k by omega)]
         exact t3
theorem Y8 {fr fr2:List Value} {t:Nat} (h:fr[t]?=fr2[t]?):d9 fr t=d9 fr2 t:=by rw [U0,U0,h]
theorem P9 (fr:List Value) (o:Oper) (v:Value) (t:Nat):(G5 fr o v)[t]?=if t∈O9 o∧t<fr.length then some v else fr[t]?:=by
 unfold G5 O9
 cases o.dst with
 | none=>simp
 | some d=>
   simp only [a1D,List.getElem?_set,List.mem_singleton]
   by_cases h:d=t
   · subst h
     by_cases hl:d<fr.length
     · simp [hl]
     · simp [hl]
   · rw [if_neg h,if_neg (fun q=>h q.1.symm)]
theorem U9 (fr:List Value) (o:Oper) (v:Value):(G5 fr o v).length=fr.length:=by
 unfold G5
 cases o.dst with
 | none=>rfl
 | some d=>simp [a1D]
theorem d6x {α β:Type}:∀ (l:List α) (m:List β) (i:Nat) (x:α) (y:β),l[i]?=some x→m[i]?=some y→(H9 l m)[i]?=some (x,y):=by
 intro l
 induction l with
 | nil=>intro m i x y h; simp at h
 | cons a l ih=>
   intro m i x y h1 h2
   cases m with
   | nil=>simp at h2
   | cons b m=>
     show ((a,b)::H9 l m)[i]?=_
     cases i with
     | zero=>simp at h1 h2; simp [h1,h2]
     | succ i=>simpa using ih m i x y (by simpa using h1) (by simpa using h2)
theorem Sim.congr {h h':Trie VObj} (S:Sim B0 w0 K h w) (e:∀ j,h'.get j=h.get j):Sim B0 w0 K h' w:=
 ⟨S.size0,S.below,S.dom',fun b g l q=>by rw [e]; exact S.dom2 b g l q,S.own,S.apart,S.same,fun b g l cs cur ro q1 q2 q3=>S.room b g l cs cur ro q1 q2 (by rw [← e]; exact q3),fun b cs cur ro q=>S.gens b cs cur ro (by rw [← e]; exact q),
  fun b cs cur ro g l q1=>S.cells b cs cur ro g l (by rw [← e]; exact q1),fun b es q=>S.map b es (by rw [← e]; exact q),fun b x p q=>S.siter b x p (by rw [← e]; exact q),fun b g l q hnc=>S.gen0 b g l q fun cs cur ro e'=>hnc cs cur ro (by rw [e]; exact e')⟩
structure Inv (B0:Nat) (w0:Base) (T:Tab) (K0:KM) (cn n:Nat) (len0:Nat) (H:Nat→Trie VObj) (FR:Nat→List Value) (dw:Nat→List Nat) (dst:Nat→List Nat) (ps:Nat→List Nat) (ds:List Deferred) (D:Nat→Bool) (a:Act) (w:World) (K:KM) (hD:Trie VObj) (fD:List Value):Prop where
 heap:∀ id,hD.get id=Z5 (fun i=>(H i).get id) D (fun i=>decide (id∈dw i)) n
 flen:fD.length=len0
 tmps:∀ t,fD[t]?=Z5 (fun i=>(FR i)[t]?) D (fun i=>decide (t∈dst i)) n
 sim:Sim B0 w0 K hD w
 vrl:VRL K a.tmps.toList fD
 gk:GK T K
 le:K0.le K
 far:∀ i g,cn≤i→K i g=K0 i g
 defs:a.defers=ds
 closed:∀ j,j<n→D j=true→∀ p,p∈ps j→D p=true
theorem a4h (hT:TabOk P T) (hM:P.follows .mixedOrders=true) {call:Nat→List Value→M Value} (hC:X8 P T B0 w0 call) (hF:∀ f vs,Fr (call f vs)) {id:Nat} (ops:Array Oper) {Q:Exit→Act→World→Prop}
 {fr':List Value} {feet:List (List Nat×List Nat)} (h:O4 P T call ops.toList ops.toList fr s=some ((fr',feet),s')) (hok:E9 ops.toList (H9 ops.toList feet) [] [] 0=true)
 (S:Sim B0 w0 K s.h w) (F:K8 K s s') (hf:VRL K a.tmps.toList fr) (hg:GK T K)
 (hq:∀ a' w' K',Step B0 w0 K s' w' K'→VRL K' a'.tmps.toList fr'→a'.defers=a.defers→Q .normal a' w'):(Code.region id ops true).wp P Q a w:=by
 obtain ⟨hlen,C,H,FR,c1,c2,c3,c4,c5,c6,tr⟩:=c4O (P:=P) (T:=T) (call:=call) ops.toList ops.size 0 fr fr' s s' feet (by simp) (by simpa using h)
 rw [Nat.zero_add] at c4 c5 c6 tr
 obtain ⟨ps,_,hps⟩:=b9x _ _ _ _ hok rfl rfl
 simp only [Nat.zero_add,List.nil_append] at hps
 let dw:Nat→List Nat:=fun i=>((feet[i]?).getD ([], [])).2
 let dr:Nat→List Nat:=fun i=>((feet[i]?).getD ([], [])).1
 let dst:Nat→List Nat:=fun i=>((ops.toList[i]?).map O9).getD []
 have hop:∀ i,i<ops.size→∃ o,ops[i]?=some o∧ops.toList[i]?=some o∧dst i=O9 o∧(H9 ops.toList feet)[i]?=some (o,(dr i,dw i)) ∧
  ((M6 ops.toList (FR i) o=true∧∃ v,M7 P T call (FR i) o.op ⟨C i,H i, [], []⟩=some (v,⟨C (i+1),H (i+1),dr i,dw i⟩)∧FR (i+1)=G5 (FR i) o v) ∨
   (M6 ops.toList (FR i) o=false∧dr i=[]∧dw i=[]∧C (i+1)=C i∧H (i+1)=H i∧FR (i+1)=G5 (FR i) o undef)):=by
  intro i hi
  obtain ⟨o,ft,t1,t2,t3⟩:=tr.op i (Nat.zero_le _) hi
  rw [Nat.sub_zero] at t2
  have e1:dr i=ft.1:=by show ((feet[i]?).getD ([], [])).1=_; rw [t2]; rfl
  have e2:dw i=ft.2:=by show ((feet[i]?).getD ([], [])).2=_; rw [t2]; rfl
  refine ⟨o,by simpa using t1,t1,by show ((ops.toList[i]?).map O9).getD []=_; rw [t1]; rfl, ?_, ?_⟩
  · rw [d6x _ _ i o ft t1 t2,e1,e2]
  · rw [e1,e2]
    rcases t3 with ⟨a1,v,a2,a3⟩ | ⟨a1,rfl,a2,a3,a4⟩
    · exact Or.inl ⟨a1,v,a2,a3⟩
    · exact Or.inr ⟨a1,rfl,rfl,a2,a3,a4⟩
 have hfoot:∀ i,i<ops.size→C i≤C (i+1)∧(∀ x,x∈dw i→x<C (i+1))∧(∀ x,C i≤x→x<C (i+1)→x∈dw i)∧(∀ x,x ∉ dw i→(H (i+1)).get x=(H i).get x):=by
  intro i hi
  obtain ⟨o,_,_,_,_,t⟩:=hop i hi
  rcases t with ⟨_,v,a2,_⟩ | ⟨_,_,b2,b3,b4,_⟩
  · obtain ⟨r0,w0',e1,e2,e3,e4,e5,e6,e7,e8⟩:=Fr.stepOp P T hF _ _ _ _ _ a2
    simp only [List.append_nil] at e1 e2
    subst e1 e2
    exact ⟨e3,e5,e6,e7⟩
  · rw [b2,b3,b4]
    exact ⟨Nat.le_refl _,by simp,fun x h1 h2=>by omega,fun _ _=>rfl⟩
 have hmono:∀ i j,i≤j→j≤ops.size→C i≤C j:=by
  intro i j hij
  induction j with
  | zero=>intro _; have:i=0:=by omega
          subst this; exact Nat.le_refl _
  | succ j ih=>
    intro hj
    by_cases hi:i=j+1
    · subst hi; exact Nat.le_refl _
    · exact Nat.le_trans (ih (by omega) (by omega)) (hfoot j (by omega)).1
 have hclash:∀ i j,i<j→j<ops.size→i∈ps j∨((∀ x,x∈dw i→x ∉ dr j)∧(∀ x,x∈dw i→x ∉ dw j)∧(∀ x,x∈dw j→x ∉ dr i) ∧
  (∀ o o',ops.toList[i]?=some o→ops.toList[j]?=some o'→(∀ t,t∈dst i→t ∉ Q7 ops.toList o')∧(∀ t,t∈dst i→t ∉ dst j)∧(∀ t,t∈dst j→t ∉ Q7 ops.toList o))):=by
  intro i j hij hj
  obtain ⟨oj,_,j1,j2,j3,_⟩:=hop j hj
  obtain ⟨oi,_,i1,i2,i3,_⟩:=hop i (by omega)
  rcases (hps j _ j3).2.2 i _ hij i3 with q | q
  · exact Or.inl q
  · obtain ⟨f1,f2,f3,f4,f5,f6⟩:=d0M q
    refine Or.inr ⟨f1,f2,f3,fun o o' ho ho'=>?_⟩
    rw [i1] at ho; rw [j1] at ho'
    cases ho; cases ho'
    rw [i2,j2]
    exact ⟨f4,f5,f6⟩
 have hXh:∀ x k,k<ops.size→decide (x∈dw k)=false→(H (k+1)).get x=(H k).get x:=fun x k hk hd=>(hfoot k hk).2.2.2 x (by simpa using hd)
 have hXt:∀ t k,k<ops.size→decide (t∈dst k)=false→(FR (k+1))[t]?=(FR k)[t]?:=by
  intro t k hk hd
  obtain ⟨o,_,_,d1,_,q⟩:=hop k hk
  have hnd:t ∉ O9 o:=by rw [← d1]; simpa using hd
  rcases q with ⟨_,v,_,e⟩ | ⟨_,_,_,_,_,e⟩ <;> rw [e,P9,if_neg (fun q=>hnd q.1)]
 have hlenF:∀ k,k≤ops.size→(FR k).length=fr.length:=by
  intro k
  induction k with
  | zero=>intro _; rw [c3]
  | succ k ih=>
    intro hk
    obtain ⟨o,_,_,_,_,q⟩:=hop k (by omega)
    rcases q with ⟨_,v,_,e⟩ | ⟨_,_,_,_,_,e⟩ <;> rw [e,U9,ih (by omega)]
 refine wp_region_any hM ?_
 have key:∀ (fuel:Nat) (listed:Array Bool) (a1:Act) (w1:World) (U:List Nat),listed.size=ops.size→U.length=fuel→U.Nodup→(∀ j,j<ops.size→(listed.getD j false=false ↔ j∈U))→(∀ j,j∈U→j<ops.size) →
  (∃ K1 hD fD,Inv B0 w0 T K s'.c ops.size fr.length H FR dw dst ps a.defers (fun j=>listed.getD j false) a1 w1 K1 hD fD)→wpAny P .any ops Q fuel listed a1 w1:=by
  intro fuel
  have hend:∀ (listed:Array Bool) (a1:Act) (w1:World),(∀ j,j<ops.size→listed.getD j false=true) →
   (∃ K1 hD fD,Inv B0 w0 T K s'.c ops.size fr.length H FR dw dst ps a.defers (fun j=>listed.getD j false) a1 w1 K1 hD fD)→Q .normal a1 w1:=by
   intro listed a1 w1 hall ⟨K1,hD,fD,I⟩
   have e1:∀ x,s'.h.get x=hD.get x:=fun x=>by
    rw [I.heap x,b6l (hXh x) hall,c5]
   have e2:fD=fr':=by
    apply List.ext_getElem?
    intro t
    rw [I.tmps t,b6l (hXt t) hall,c6]
   subst e2
   exact hq a1 w1 K1 ⟨I.le,I.far,I.sim.congr e1⟩ I.vrl I.defs
  have hgetD:∀ (listed:Array Bool) i,listed.size=ops.size→i<ops.size→listed.getD i true=listed.getD i false:=by
   intro listed i h1 h2
   simp [Array.getD,h1,h2]
  induction fuel with
  | zero=>
    intro listed a1 w1 U hsz hU hnd hUU hUn hI
    have hall:∀ j,j<ops.size→listed.getD j false=true:=by
     intro j hj
     cases q:listed.getD j false with
     | true=>rfl
     | false=>
       have:=(hUU j hj).1 q
       rw [List.eq_nil_of_length_eq_zero hU] at this
       cases this
    refine ⟨?_,hend listed a1 w1 hall hI⟩
    unfold Region.ready
    rw [List.filter_eq_nil_iff]
    intro i hi
    have hi:i<ops.size:=by simpa using hi
    rw [hgetD listed i hsz hi,hall i hi]
    simp
  | succ fuel ih=>
    intro listed a1 w1 U hsz hU hnd hUU hUn hI
    refine ⟨fun hr=>?_,fun i hi=>?_⟩
    ·
      exfalso
      obtain ⟨u,hu,hmin⟩:∃ u,u∈U∧∀ x,x∈U→u≤x:=by
       have hne:∃ x,x∈U:=by
        cases U with
        | nil=>simp at hU
        | cons x U=>exact ⟨x,List.mem_cons_self ..⟩
       obtain ⟨x,hx⟩:=hne
       have:∀ m x,x≤m→x∈U→∃ u,u∈U∧∀ x,x∈U→u≤x:=by
        intro m
        induction m with
        | zero=>intro x h1 h2; exact ⟨x,h2,fun y _=>by omega⟩
        | succ m ihm=>
          intro x h1 h2
          by_cases hh:∃ y,y∈U∧y≤m
          · obtain ⟨y,y1,y2⟩:=hh; exact ihm y y2 y1
          · exact ⟨x,h2,fun y hy=>by
             have:¬ y≤m:=fun q=>hh ⟨y,hy,q⟩
             omega⟩
       exact this x x (Nat.le_refl _) hx
      have hun:=hUn u hu
      obtain ⟨o,o1,o2,_,o3,_⟩:=hop u hun
      have hmem:u∈Region.ready .any ops listed:=by
       unfold Region.ready
       rw [List.mem_filter]
       refine ⟨by simpa using hun, ?_⟩
       rw [hgetD listed u hsz hun,(hUU u hun).2 hu,o1]
       simp only [Bool.not_false,Bool.true_and,Option.map_some,Option.getD_some]
       rw [Array.all_eq_true_iff_forall_mem]
       intro e he
       cases hb:Region.binds .any e with
       | false=>rfl
       | true=>
         have hlt:=(hps u _ o3).1 e (by simpa using he) hb
         simp only [Bool.not_true,Bool.false_or]
         cases q:listed.getD e.on false with
         | true=>rfl
         | false=>
           have:=hmin _ ((hUU e.on (by omega)).1 q)
           omega
      rw [hr] at hmem
      cases hmem
    · obtain ⟨K1,hD,fD,I⟩:=hI
      unfold Region.ready at hi
      rw [List.mem_filter] at hi
      have hin:i<ops.size:=by simpa using hi.1
      obtain ⟨o,o1,o2,o3,o4,o5⟩:=hop i hin
      have hi2:=hi.2
      rw [hgetD listed i hsz hin,o1] at hi2
      simp only [Option.map_some,Option.getD_some,Bool.and_eq_true,Bool.not_eq_true'] at hi2
      obtain ⟨hnl,hed⟩:=hi2
      rw [Array.all_eq_true_iff_forall_mem] at hed
      let D:Nat→Bool:=fun j=>listed.getD j false
      let D':Nat→Bool:=fun j=>(listed.setIfInBounds i true).getD j false
      have hD':∀ j,D' j=if j=i then true else D j:=by
       intro j
       show (listed.setIfInBounds i true).getD j false=_
       by_cases hj:j=i
       · subst hj; simp [Array.getD,hsz,hin]
       · rw [if_neg hj]
         show _=listed.getD j false
         simp only [Array.getD_eq_getD_getElem?,Array.getElem?_setIfInBounds]
         rw [if_neg (fun q=>hj q.symm)]
      have hpsD:∀ p,p∈ps i→D p=true:=by
       intro p hp
       obtain ⟨e,he,hb,hpe⟩:=(hps i _ o4).2.1 p hp
       have he1:D e.on=true:=by
        have:=hed e (by simpa using he)
        rw [hb] at this
        simp only [Bool.not_true,Bool.false_or] at this
        exact this
       have hlt:=(hps i _ o4).1 e he hb
       rcases hpe with rfl | hpe
       · exact he1
       · exact I.closed e.on (by omega) he1 p hpe
      have hside:∀ j,j<ops.size→j≠i→(¬ (j<i∧j ∉ ps i))∧(¬ (i<j∧D j=true∧i ∉ ps j))→True:=fun _ _ _ _=>trivial
      have hagreeH:∀ x,(x∈dr i∨x∈dw i)→∀ j,j<ops.size→x∈dw j→(D j=true ↔ j<i):=by
       intro x hx j hj hxj
       rcases Nat.lt_trichotomy j i with hlt | rfl | hgt
       · refine ⟨fun _=>hlt,fun _=>?_⟩
         rcases hclash j i hlt hin with q | ⟨q1,q2,q3,_⟩
         · exact hpsD j q
         · rcases hx with hx | hx
           · exact absurd hx (q1 x hxj)
           · exact absurd hx (q2 x hxj)
       · refine ⟨fun q=>?_,fun q=>by omega⟩
         have:D j=false:=hnl
         rw [this] at q; cases q
       · refine ⟨fun q=>?_,fun q=>by omega⟩
         rcases hclash i j hgt hj with q' | ⟨q1,q2,q3,_⟩
         · have:=I.closed j hj q i q'
           have hf:D i=false:=hnl
           rw [show D i=true from this] at hf; cases hf
         · rcases hx with hx | hx
           · exact absurd hx (q3 x hxj)
           · exact absurd hxj (q2 x hx)
      have hagreeT:∀ t,(t∈Q7 ops.toList o∨t∈dst i)→∀ j,j<ops.size→t∈dst j→(D j=true ↔ j<i):=by
       intro t ht j hj htj
       rcases Nat.lt_trichotomy j i with hlt | rfl | hgt
       · refine ⟨fun _=>hlt,fun _=>?_⟩
         rcases hclash j i hlt hin with q | ⟨_,_,_,q4⟩
         · exact hpsD j q
         · obtain ⟨oj,_,j1,_,_,_⟩:=hop j hj
           obtain ⟨r1,r2,r3⟩:=q4 oj o j1 o2
           rcases ht with ht | ht
           · exact absurd ht (r1 t htj)
           · exact absurd ht (r2 t htj)
       · refine ⟨fun q=>?_,fun q=>by omega⟩
         have:D j=false:=hnl
         rw [this] at q; cases q
       · refine ⟨fun q=>?_,fun q=>by omega⟩
         rcases hclash i j hgt hj with q' | ⟨_,_,_,q4⟩
         · have:=I.closed j hj q i q'
           have hf:D i=false:=hnl
           rw [show D i=true from this] at hf; cases hf
         · obtain ⟨oj,_,j1,_,_,_⟩:=hop j hj
           obtain ⟨r1,r2,r3⟩:=q4 o oj o2 j1
           rcases ht with ht | ht
           · exact absurd ht (r3 t htj)
           · exact absurd htj (r2 t ht)
      have hH:∀ x,(x∈dr i∨x∈dw i)→hD.get x=(H i).get x:=fun x hx=>by
       rw [I.heap x]
       exact a2K (hXh x) i (fun j hj hw=>hagreeH x hx j hj (by simpa using hw)) (by omega)
      have hFt:∀ t,(t∈Q7 ops.toList o∨t∈dst i)→fD[t]?=(FR i)[t]?:=fun t ht=>by
       rw [I.tmps t]
       exact a2K (hXt t) i (fun j hj hw=>hagreeT t ht j hj (by simpa using hw)) (by omega)
      obtain ⟨hstep,hwant⟩:=a4m (P:=P) (T:=T) (call:=call) (ops:=ops.toList) (o:=o) (fr:=fD) (fr2:=FR i) (fun t ht=>Y8 (hFt t (Or.inl ht)))
      have hnext:∀ (v:Value) (hD2:Trie VObj) (K2:KM) (v':Value) (w2:World),FR (i+1)=G5 (FR i) o v→(∀ x,x∈dw i→hD2.get x=(H (i+1)).get x)→(∀ x,x ∉ dw i→hD2.get x=hD.get x) →
       Sim B0 w0 K2 hD2 w2→K1.le K2→(∀ x g,s'.c≤x→K2 x g=K1 x g)→VR K2 v' v→wpAny P .any ops Q fuel (listed.setIfInBounds i true) (a1.put o.dst v') w2:=by
       intro v hD2 K2 v' w2 e1 e2 e3 e4 e5 e6 e7
       refine ih _ _ _ (U.erase i) (by simp [hsz]) ?_ (hnd.erase i) (fun j hj=>?_) (fun j hj=>hUn j (List.mem_of_mem_erase hj)) ⟨K2,hD2,G5 fD o v,⟨fun x=>?_,by rw [U9]; exact I.flen,fun t=>?_,e4,a1a (I.vrl.mono e5) o e7,I.gk.mono e5,KM.le_trans I.le e5,fun x g hx=>(e6 x g hx).trans (I.far x g hx),by rw [O5]; exact I.defs,fun j hj hd p hp=>?_⟩⟩
       · have:i∈U:=(hUU i hin).1 hnl
         rw [List.length_erase_of_mem this,hU]; rfl
       · have:=hD' j
         show D' j=false ↔ _
         rw [this,hnd.mem_erase_iff]
         by_cases hji:j=i
         · subst hji; simp
         · rw [if_neg hji]; exact ⟨fun q=>⟨hji,(hUU j hj).1 q⟩,fun q=>(hUU j hj).2 q.2⟩
       · show _=Z5 _ D' _ _
         by_cases hx:x∈dw i
         · rw [e2 x hx,b9Z (n:=ops.size) i hin (by rw [hD' i,if_pos rfl]) (by simpa using hx) (fun j h1 h2 h3=>?_)]
           rw [hD' j,if_neg (by omega)] at h3
           cases q:decide (x∈dw j) with
           | false=>rfl
           | true=>
             have:=(hagreeH x (Or.inr hx) j h2 (by simpa using q)).1 h3
             omega
         · rw [e3 x hx,I.heap x]
           refine (b4j fun j hj hw=>?_).symm
           rw [hD' j,if_neg (fun q=>hx (by subst q; simpa using hw))]
       · show _=Z5 _ D' _ _
         by_cases ht:t∈dst i
         · rw [b9Z (n:=ops.size) i hin (by rw [hD' i,if_pos rfl]) (by simpa using ht) (fun j h1 h2 h3=>?_)]
           · rw [e1,P9,P9,hFt t (Or.inr ht),I.flen,hlenF i (by omega)]
           · rw [hD' j,if_neg (by omega)] at h3
             cases q:decide (t∈dst j) with
             | false=>rfl
             | true=>
               have:=(hagreeT t (Or.inr ht) j h2 (by simpa using q)).1 h3
               omega
         · rw [P9,if_neg (fun q=>ht (by rw [o3]; exact q.1)),I.tmps t]
           refine (b4j fun j hj hw=>?_).symm
           rw [hD' j,if_neg (fun q=>ht (by subst q; simpa using hw))]
       · have hdj:D' j=true:=hd
         show D' p=true
         rw [hD' j] at hdj
         rw [hD' p]
         by_cases hji:j=i
         · subst hji
           have:=hpsD p hp
           split <;> first | rfl | exact this
         · rw [if_neg hji] at hdj
           have:=I.closed j hj hdj p hp
           split <;> first | rfl | exact this
      unfold wpOp
      rw [o1]
      dsimp only
      rw [a1y ops a1.tmps I.vrl,hwant]
      rcases o5 with ⟨b1,v,b2,b3⟩ | ⟨b1,b2,b3,b4,b5,b6⟩
      · rw [b1,if_pos rfl]
        left
        obtain ⟨r0,w0',e1,e2,e3,e4,e5,e6,e7,e8⟩:=Fr.stepOp P T hF _ _ _ _ _ b2
        simp only [List.append_nil] at e1 e2
        subst e1 e2
        obtain ⟨h2',q1,q2,q3⟩:=e8 hD [] [] (fun x hx _=>hH x hx)
        rw [← hstep] at q1
        have hfree:K8 K1 ⟨C i,hD, [], []⟩ ⟨C (i+1),h2',dr i ++ [],dw i ++ []⟩:=by
         intro x hx1 hx2
         show hD.get x=none
         have hx1:C i≤x:=hx1
         have hx2:x<C (i+1):=hx2
         rw [I.heap x,a3k (fun j hj hd=>?_)]
         · show (H 0).get x=none
           rw [c2]
           have h0:=hmono 0 i (Nat.zero_le _) (by omega)
           have hn:=hmono (i+1) ops.size (by omega) (Nat.le_refl _)
           exact F x (by rw [← c1]; omega) (by rw [← c4]; omega)
         · cases q:decide (x∈dw j) with
           | false=>rfl
           | true=>
             have hxj:x∈dw j:=by simpa using q
             have hxi:x∈dw i:=e6 x hx1 hx2
             have:=(hagreeH x (Or.inr hxi) j hj hxj).1 hd
             have h1:=(hfoot j hj).2.1 x hxj
             have h2:=hmono (j+1) i (by omega) (by omega)
             omega
        refine a1P hT hC q1 I.sim hfree I.vrl I.gk fun v' w2 K2 st r=>?_
        refine hnext v h2' K2 v' w2 b3 q2 q3 st.sim st.le (fun x g hx=>st.far x g ?_) r
        have hn:=hmono (i+1) ops.size (by omega) (Nat.le_refl _)
        show C (i+1)≤x
        rw [← c4] at hx
        omega
      · rw [b1]
        simp only [Bool.false_eq_true,if_false]
        exact hnext undef hD K1 undef w1 b6 (fun x hx=>by rw [b3] at hx; cases hx) (fun _ _=>rfl) I.sim (KM.le_refl _) (fun _ _ _=>rfl) (VR.undef K1)
 refine key ops.size (Array.replicate ops.size false) a _ (List.range ops.size) (by simp) (by simp) List.nodup_range (fun j hj=>by simp [hj]) (fun j hj=>by simpa using hj) ?_
 refine ⟨K,s.h,fr,⟨fun x=>?_,rfl,fun t=>?_,a0z S (Grew.drew w),hf,hg,KM.le_refl K,fun _ _ _=>rfl,rfl,fun j hj hd=>?_⟩⟩
 · rw [a3k (fun j hj hd=>by simp [hj] at hd),c2]
 · rw [a3k (fun j hj hd=>by simp [hj] at hd),c3]
 · simp [hj] at hd
end
end Go.V
end
