import Derived.Lib.IndexBytes
import Derived.Test.YtmomonnlmbljoaaGreatDoorRad
section
namespace Go.V
open Go.RowKit (Below)
theorem b0z (off:Nat):∀ (l:List Value) (k0:Nat) (cells:Array Value),off+k0+l.length≤cells.size →
 ((l.zipIdx k0).foldl (fun acc x=>acc.setIfInBounds (off+x.2) x.1) cells).size=cells.size ∧
 ∀ k,((l.zipIdx k0).foldl (fun acc x=>acc.setIfInBounds (off+x.2) x.1) cells)[k]?=if off+k0≤k∧k<off+k0+l.length then l[k - (off+k0)]? else cells[k]?
 | [],k0,cells,_=>⟨rfl,fun k=>by rw [if_neg (by simp)]; rfl⟩
 | v::l,k0,cells,h=>by
   have h':off+(k0+1)+l.length≤(cells.setIfInBounds (off+k0) v).size:=by simp at h ⊢; omega
   obtain ⟨h1,h2⟩:=b0z off l (k0+1) (cells.setIfInBounds (off+k0) v) h'
   simp only [List.zipIdx_cons,List.foldl_cons]
   refine ⟨by rw [h1]; simp,fun k=>?_⟩
   rw [h2 k]
   simp only [List.length_cons] at h ⊢
   by_cases hk:k=off+k0
   · subst hk
     rw [if_neg (by omega),if_pos (by omega),Array.getElem?_setIfInBounds,if_pos rfl,if_pos (by omega),Nat.sub_self]; rfl
   · by_cases hk2:off+k0≤k∧k<off+k0+(l.length+1)
     · rw [if_pos (by omega),if_pos hk2,show k - (off+k0)=(k - (off+(k0+1)))+1 by omega]; simp
     · rw [if_neg (by omega),if_neg hk2,Array.getElem?_setIfInBounds,if_neg (fun q=>hk q.symm)]
theorem b0V:∀ (vs cs:List Value) (k:Nat),(a2C vs cs)[k]?=if k<vs.length∧k<cs.length then vs[k]? else cs[k]?:=by
 intro vs
 induction vs with
 | nil=>intro cs k; rfl
 | cons v vs ih=>
   intro cs k
   cases cs with
   | nil=>show ([]:List Value)[k]?=_; simp
   | cons c cs=>
     show (v::a2C vs cs)[k]?=_
     cases k with
     | zero=>simp
     | succ k=>simp [ih]
theorem a1Z (vs:List Value):∀ (cs:List Value) (off k:Nat),(V9 vs cs off)[k]?=if off≤k∧k<off+vs.length∧k<cs.length then vs[k - off]? else cs[k]?:=by
 intro cs
 induction cs with
 | nil=>intro off k; show ([]:List Value)[k]?=_; simp
 | cons c cs ih=>
   intro off k
   cases off with
   | zero=>show (a2C vs (c::cs))[k]?=_; rw [b0V]; simp
   | succ off=>
     show (c::V9 vs cs off)[k]?=_
     cases k with
     | zero=>simp
     | succ k=>
       simp only [List.getElem?_cons_succ,ih,List.length_cons]
       by_cases hk:off≤k∧k<off+vs.length∧k<cs.length
       · rw [if_pos hk,if_pos (by omega),show k+1 - (off+1)=k - off by omega]
       · rw [if_neg hk,if_neg (by omega)]
theorem a2M (vs:List Value):∀ (cs:List Value) (off:Nat),(V9 vs cs off).length=cs.length:=by
 intro cs off
 apply Nat.le_antisymm
 · rcases Nat.lt_or_ge cs.length (V9 vs cs off).length with h | h
   · have:=a1Z vs cs off cs.length
     rw [if_neg (by omega),List.getElem?_eq_none (Nat.le_refl _),List.getElem?_eq_getElem h] at this
     cases this
   · exact h
 · rcases Nat.lt_or_ge (V9 vs cs off).length cs.length with h | h
   · have h1:=a1Z vs cs off (V9 vs cs off).length
     rw [List.getElem?_eq_none (Nat.le_refl _)] at h1
     by_cases hk:off≤(V9 vs cs off).length∧(V9 vs cs off).length<off+vs.length∧(V9 vs cs off).length<cs.length
     · rw [if_pos hk,List.getElem?_eq_getElem (by omega)] at h1; cases h1
     · rw [if_neg hk,List.getElem?_eq_getElem h] at h1; cases h1
   · exact h
theorem a4J {K:KM} {ρ:Operand→Value} (place:Nat→Option (Nat×Nat)):∀ (qs:List (Nat×Operand)) (vs cs cs2 cs':List Value),
 a2A place qs vs cs=some cs2→VRL K (qs.map fun q=>ρ q.2) vs→VRL K cs' cs →
 ∃ cs2',Instr.fill place cs'.toArray (qs.map fun q=>(q.1, ρ q.2))=some cs2'.toArray∧VRL K cs2' cs2:=by
 intro qs
 induction qs with
 | nil=>intro vs cs cs2 cs' h hv hc; cases h; exact ⟨cs',rfl,hc⟩
 | cons q qs ih=>
   intro vs cs cs2 cs' h hv hc
   cases vs with
   | nil=>have:=hv.len; simp at this
   | cons v vs=>
     have h':(match place q.1 with | none=>none | some os=>match Nat.beq (F4 v.cells.toList) os.2 && Nat.ble (os.1+os.2) (F4 cs) with | true=>a2A place qs vs (V9 v.cells.toList cs os.1) | false=>none)=some cs2:=h
     cases hp:place q.1 with
     | none=>rw [hp] at h'; cases h'
     | some os=>
       obtain ⟨off,size⟩:=os
       rw [hp] at h'
       dsimp only at h'
       cases hb:Nat.beq (F4 v.cells.toList) size && Nat.ble (off+size) (F4 cs) with
       | false=>rw [hb] at h'; cases h'
       | true=>
         rw [hb] at h'
         simp only [Bool.and_eq_true,J2] at hb
         have hb1:=Nat.eq_of_beq_eq_true hb.1
         have hb2:=Nat.le_of_ble_eq_true hb.2
         have hvc:=(hv.head).cells
         have hsz:(ρ q.2).cells.size=size:=by rw [← Array.length_toList,hvc.len,hb1]
         have hcs:cs'.length=cs.length:=hc.len
         obtain ⟨f1,f2⟩:=b0z off (ρ q.2).cells.toList 0 cs'.toArray (by simp [hsz]; omega)
         let nc:=(((ρ q.2).cells.toList.zipIdx 0).foldl (fun acc x=>acc.setIfInBounds (off+x.2) x.1) cs'.toArray)
         have hrel:VRL K nc.toList (V9 v.cells.toList cs off):=by
          refine ⟨by rw [a2M]; simpa [nc,hcs] using f1,fun i x' x e e'=>?_⟩
          have g1:nc[i]?=some x':=by simpa using e
          rw [f2 i] at g1
          rw [a1Z] at e'
          simp only [Nat.add_zero,Array.length_toList,hsz] at g1
          by_cases hk:off≤i∧i<off+size
          · rw [if_pos hk] at g1
            rw [if_pos (by rw [hb1]; omega)] at e'
            exact hvc.at_ _ _ _ g1 e'
          · rw [if_neg hk] at g1
            rw [if_neg (by rw [hb1]; omega)] at e'
            exact hc.at_ i x' x (by simpa using g1) e'
         obtain ⟨cs2',r1,r2⟩:=ih vs _ cs2 nc.toList h' hv.tail hrel
         refine ⟨cs2', ?_,r2⟩
         have hcond:¬ (off+size > cs'.length):=by omega
         simp only [List.map_cons,Instr.fill,hp,hsz]
         simp only [ne_eq,not_true_eq_false,decide_false,Bool.false_or,List.size_toArray,hcond]
         rw [← r1]
         congr 1
         rw [← Array.foldl_toList]
         simp [nc,Array.toList_zipIdx]
section
variable {P:Program} {T:Tab} {B0:Nat} {w0:Base} {w:World} {K:KM} {s s':S} {a:Act} {fr:List Value} {v:Value}
theorem b0C (hT:TabOk P T):∀ (fs:List Field),(∀ f∈fs,c7H T f=true) →
 ∃ places:List (Nat×Nat),fs.mapM (fun f=>(P.info? f.type).map fun i=>(f.offset,i.size))=some places∧∀ j,places[j]?=a0q T fs j
 | [],_=>⟨[],rfl,fun j=>rfl⟩
 | f::fs,h=>by
   obtain ⟨places,h1,h2⟩:=b0C hT fs (fun g hg=>h g (List.mem_cons_of_mem _ hg))
   have hf:=h f (List.mem_cons_self ..)
   unfold c7H at hf
   obtain ⟨i,hi⟩:=Option.isSome_iff_exists.1 hf
   obtain ⟨info,g1,_,g3,_⟩:=hT.types _ _ hi
   refine ⟨(f.offset,i.size)::places,by simp [List.mapM_cons,g1,g3,h1],fun j=>?_⟩
   cases j with
   | zero=>simp [a0q,O7,hi]
   | succ j=>have:=h2 j; simpa [a0q,O7] using this
theorem d5a (hT:TabOk P T) {t:TypeId} {ps:Array (Nat×Operand)} (h:a2l T fr t ps s=some (v,s')) (S:Sim B0 w0 K s.h w) (hf:VRL K a.tmps.toList fr) (hg:GK T K) :
 F9 P B0 w0 K s' (do pure (Next.value (← Instr.build t (ps.map fun (i,x)=>(i,a.eval x))))) w v:=by
 obtain ⟨vs,e1,h1⟩:=a0h h
 obtain ⟨i,hi,h2⟩:=I8 h1
 obtain ⟨hz,h3⟩:=A8 h2
 obtain ⟨info,g1,g2,g3,g4,g5,g6⟩:=hT.types t i hi
 have hzz:VRL K i.zero.cells.toList i.zero.cells.toList:=(L8 (K:=K) _ _ hz).cells
 rw [Q6] at e1
 have hv:=a0e hf hg e1
 have hv':VRL K (ps.toList.map fun q=>a.eval q.2) vs:=by rw [List.map_map] at hv; exact hv
 have hparts:(ps.map fun (i,x)=>(i,a.eval x)).toList=ps.toList.map fun q=>(q.1,a.eval q.2):=by simp
 generalize hu:i.und=u at h3
 cases u with
 | struct fields=>
   obtain ⟨hfs,h4⟩:=A8 h3
   obtain ⟨cs,hcs,h5⟩:=C9 h4
   obtain ⟨rfl,rfl⟩:=o9 h5
   rw [K9] at hfs
   obtain ⟨places,p1,p2⟩:=b0C hT fields.toList hfs
   obtain ⟨cs2',r1,r2⟩:=a4J (ρ:=a.eval) _ ps.toList vs _ cs _ hcs hv' hzz
   refine F9.quiet (v':=.agg cs2'.toArray) S rfl ?_ (.agg (by simpa using r2.len) (by simpa using r2.at_))
   apply run_build
   unfold Program.built
   rw [g1,g2,hu,hparts]
   have hpl:(fun x=>places.toArray[x]?)=a0q T fields.toList:=by funext j; rw [← p2 j]; simp
   simp only [g5,p1,hpl]
   simpa using r1
 | array n elem=>
   obtain ⟨e,he,h4⟩:=I8 h3
   obtain ⟨cs,hcs,h5⟩:=C9 h4
   obtain ⟨rfl,rfl⟩:=o9 h5
   obtain ⟨einfo,k1,_,k3,_⟩:=hT.types elem e he
   obtain ⟨cs2',r1,r2⟩:=a4J (ρ:=a.eval) _ ps.toList vs _ cs _ hcs hv' hzz
   refine F9.quiet (v':=.agg cs2'.toArray) S rfl ?_ (.agg (by simpa using r2.len) (by simpa using r2.at_))
   apply run_build
   unfold Program.built
   rw [g1,g2,hu,hparts]
   simp only [g5,k1,k3]
   have:(fun i:Nat=>some (i * e.size,e.size))=V5 e.size:=rfl
   rw [this]
   simpa using r1
 | _=>exact absurd h3 (by intro q; cases q)
theorem a1f (zs:List Value) (n:Nat):(Y4 zs n).length=n * zs.length:=by
 induction n with
 | zero=>show ([]:List Value).length=_; simp
 | succ n ih=>show (G7 zs (Y4 zs n)).length=_; rw [I5,List.length_append,ih]; rw [Nat.succ_mul]; omega
theorem d3u (zs:List Value):∀ (n k:Nat),k<n * zs.length→(Y4 zs n)[k]?=zs[k % zs.length]?:=by
 intro n
 induction n with
 | zero=>intro k h; simp at h
 | succ n ih=>
   intro k h
   show (G7 zs (Y4 zs n))[k]?=_
   rw [I5]
   by_cases hk:k<zs.length
   · rw [List.getElem?_append_left hk,Nat.mod_eq_of_lt hk]
   · rw [List.getElem?_append_right (by omega),ih _ (by rw [Nat.succ_mul] at h; omega)]
     rw [Nat.mod_eq_sub_mod (Nat.le_of_not_lt hk)]
theorem a4U (z:Array Value) (n:Nat) (hz:0<z.size):((Array.range (n * z.size)).map (fun i=>z[i % z.size]!)).toList=Y4 z.toList n:=by
 apply List.ext_getElem?
 intro k
 by_cases hk:k<n * z.size
 · rw [d3u _ n k (by simpa using hk)]
   have hm:k % z.size<z.size:=Nat.mod_lt _ hz
   simp [hk,hm]
 · rw [List.getElem?_eq_none (by simp; omega),List.getElem?_eq_none (by rw [a1f]; simp; omega)]
theorem VRL.repl {zs:List Value} (h:VRL K zs zs) (n:Nat):VRL K (Y4 zs n) (Y4 zs n):=by
 induction n with
 | zero=>exact VRL.nil K
 | succ n ih=>show VRL K (G7 zs (V.Y4 zs n)) (G7 zs (V.Y4 zs n)); rw [I5]; exact h.append ih
theorem b0N (hT:TabOk P T) {t:TypeId} {len:Nat} {ps:Array (Nat×Operand)} (h:a0c T fr t len ps s=some (v,s')) (S:Sim B0 w0 K s.h w) (F:K8 K s s') (hf:VRL K a.tmps.toList fr) (hg:GK T K) :
 F9 P B0 w0 K s' (do pure (Next.value (← Instr.buildSlice t len (ps.map fun (i,x)=>(i,a.eval x))))) w v:=by
 obtain ⟨vs,e1,h1⟩:=a0h h
 obtain ⟨d,hd,h2⟩:=I8 h1
 rw [Q6] at e1
 have hv:=a0e hf hg e1
 have hv':VRL K (ps.toList.map fun q=>a.eval q.2) vs:=by rw [List.map_map] at hv; exact hv
 have hparts:(ps.map fun (i,x)=>(i,a.eval x)).toList=ps.toList.map fun q=>(q.1,a.eval q.2):=by simp
 generalize hu:d.und=u at h2
 cases u with
 | slice elem=>
   obtain ⟨e,he,h3⟩:=I8 h2
   obtain ⟨hgd,h4⟩:=A8 h3
   obtain ⟨cs,hcs,h5⟩:=C9 h4
   obtain ⟨ad,s1,h6,h7⟩:=w9 h5
   obtain ⟨rfl,rfl⟩:=o9 h7
   simp only [Bool.and_eq_true] at hgd
   obtain ⟨⟨⟨q1,q2⟩,q3⟩,q4⟩:=hgd
   have q2:=a5r q2
   have q4:=Nat.le_of_ble_eq_true q4
   obtain ⟨info,g1,g2,g3,g4,g5,g6⟩:=hT.types elem e he
   have hzz:VRL K e.zero.cells.toList e.zero.cells.toList:=(L8 (K:=K) _ _ q3).cells
   obtain ⟨cs2',r1,r2⟩:=a4J (ρ:=a.eval) _ ps.toList vs _ cs _ hcs hv' (hzz.repl len)
   obtain ⟨K',k1,k2,rfl⟩:=a1J h6 S F r2 elem
   have hlen:cs2'.length=len * e.size:=by
    have:∀ (qs:List (Nat×Operand)) vs cs cs2,a2A (V5 e.size) qs vs cs=some cs2→cs2.length=cs.length:=by
     intro qs
     induction qs with
     | nil=>intro vs cs cs2 h; cases h; rfl
     | cons q qs ih=>
       intro vs cs cs2 h
       cases vs with
       | nil=>cases h
       | cons v vs=>
         have h':(match Nat.beq (F4 v.cells.toList) e.size && Nat.ble (q.1 * e.size+e.size) (F4 cs) with | true=>a2A (V5 e.size) qs vs (V9 v.cells.toList cs (q.1 * e.size)) | false=>none)=some cs2:=h
         split at h'
         · rw [ih _ _ _ h',a2M]
         · cases h'
    rw [r2.len,this _ _ _ _ hcs,a1f,Array.length_toList,g6]
   refine F9.step (v':=.slice (some ⟨w.heap.size, 0,none⟩) len len) (w':=w.alloc (.cells cs2'.toArray elem)) ?_ k1 ?_
   · have hsm:¬ len * e.size > 2 ^ 24:=by omega
     by_cases h0:len * e.size=0
     · have hl0:len=0:=by
        rcases Nat.mul_eq_zero.1 h0 with h | h
        · exact h
        · exact absurd h q2
       subst hl0
       simp only [Instr.buildSlice,Sem.run_bind,J3 hT hd,hu,Result.andThen_ok,L9 hT he,hparts]
       have hr:(fun i=>some (i * e.size,e.size))=V5 e.size:=rfl
       have r1':Instr.fill (V5 e.size) #[] (List.map (fun q=>(q.fst,a.eval q.snd)) ps.toList)=some cs2'.toArray:=r1
       have hr0:Array.range 0=#[]:=rfl
       simp [hr,newRow,hr0,r1']
     · have hr:(fun i=>some (i * e.size,e.size))=V5 e.size:=rfl
       have:=run_buildSlice w t elem len (ps.map fun (i,x)=>(i,a.eval x)) cs2'.toArray info e.zero (by rw [← hu]; exact (hT.types t d hd).choose_spec.2.1) g1 g5 (by rw [g3]; exact hsm) (by rw [g3]; exact h0)
        (by
          rw [g3,hr,hparts, ← r1]
          congr 1
          apply Array.ext'
          have hz:=a4U e.zero.cells len (by rw [g6]; omega)
          rw [g6] at hz
          simpa [g6] using hz)
       exact this
   · refine VR.slice (off:=0) k2 (Nat.zero_le _) (by omega) (Nat.le_refl _) (Or.inr rfl) ?_
     refine Or.inr ⟨rfl,rfl,fun _=>?_⟩
     dsimp only
     rw [hlen]; omega
 | _=>exact absurd h2 (by intro q; cases q)
end
end Go.V
end
section
namespace Go.V
open Go.RowKit (Below)
section
variable {P:Program} {T:Tab} {B0:Nat} {w0:Base} {w:World} {K:KM} {s s':S} {a:Act} {fr:List Value} {v:Value}
theorem a5e (n:Nat) (h:n<9223372036854775808):IntKind.i64.wrap (Int.ofNat n)=Int.ofNat n:=by
 unfold IntKind.wrap
 have e1:(2 ^ IntKind.i64.bits:Int)=18446744073709551616:=rfl
 have e2:(2 ^ (IntKind.i64.bits - 1):Int)=9223372036854775808:=rfl
 rw [e1,e2]
 have:(Int.ofNat n) % 18446744073709551616=Int.ofNat n:=Int.emod_eq_of_lt (by simp) (by have:(Int.ofNat n)=(n:Int):=rfl; omega)
 rw [this]
 simp only [Int.ofNat_eq_natCast]
 rw [if_neg (by simp; omega)]
theorem d3m (zs:List Value) (m n:Nat):Y4 zs (m+n)=Y4 zs m ++ Y4 zs n:=by
 induction m with
 | zero=>rw [Nat.zero_add]; rfl
 | succ m ih=>
   rw [show m+1+n=(m+n)+1 by omega]
   show G7 zs (Y4 zs (m+n))=G7 zs (Y4 zs m) ++ Y4 zs n
   rw [I5,I5,ih,List.append_assoc]
theorem d9a (hT:TabOk P T) {t:TypeId} {x y:Operand} (h:a3d T fr t x y s=some (v,s')) (S:Sim B0 w0 K s.h w) (F:K8 K s s') (hf:VRL K a.tmps.toList fr) (hg:GK T K) :
 F9 P B0 w0 K s' (do pure (Next.value (← Instr.makeSlice t (a.eval x) (a.eval y)))) w v:=by
 obtain ⟨vx,e1,h1⟩:=K3 h
 obtain ⟨vy,e2,h2⟩:=K3 h1
 obtain ⟨d,hd,h3⟩:=I8 h2
 generalize hu:d.und=u at h3
 cases u with
 | slice elem=>
   obtain ⟨e,he,h4⟩:=I8 h3
   obtain ⟨l,hl,h5⟩:=C9 h4
   obtain ⟨c,hc,h6⟩:=C9 h5
   obtain ⟨hgd,h7⟩:=A8 h6
   obtain ⟨ad,s1,h8,h9⟩:=w9 h7
   obtain ⟨rfl,rfl⟩:=o9 h9
   obtain ⟨k1,rfl⟩:=a0G hl
   obtain ⟨k2,rfl⟩:=a0G hc
   have ex:a.eval x=.int k1 (Int.ofNat l):=(F5 hf hg e1).eq_of_plain rfl
   have ey:a.eval y=.int k2 (Int.ofNat c):=(F5 hf hg e2).eq_of_plain rfl
   simp only [Bool.and_eq_true] at hgd
   obtain ⟨⟨⟨⟨⟨q1,q2⟩,q3⟩,q4⟩,q5⟩,q6⟩:=hgd
   have q1:=Nat.le_of_ble_eq_true q1
   have q2:c<4294967296:=by simpa [Nat.blt_eq,a2b] using q2
   have q3:e.bytes<4096:=by simpa [Nat.blt_eq] using q3
   have q5:=a5r q5
   obtain ⟨info,g1,g2,g3,g4,g5,g6⟩:=hT.types elem e he
   have hzz:VRL K e.zero.cells.toList e.zero.cells.toList:=(L8 (K:=K) _ _ q6).cells
   have hzpos:0<e.zero.cells.size:=by rw [g6]; omega
   let arr:Array Value:=(Array.range (c * e.size)).map (fun i=>e.zero.cells[i % e.zero.cells.size]!)
   have harr:arr.toList=Y4 e.zero.cells.toList c:=by
    have:=a4U e.zero.cells c hzpos
    simpa [arr,g6] using this
   have hsz:arr.size=c * e.size:=by simp [arr]
   obtain ⟨K',r1,r2,rfl⟩:=Z6 (w':=w.alloc (.cells arr elem)) (arr:=arr) (e:=elem) (fz:=(0, 0)) (rest:=Y4 e.zero.cells.toList (c - l)) h8 S F (hzz.repl l) (Grew.alloc _ _)
    (by show (w.heap.push _)[w.heap.size]?=_; simp) (by rw [harr, ← d3m]; congr 1; omega) (fun o _=>by simp)
   refine F9.step (v':=.slice (some ⟨w.heap.size, 0,none⟩) l c) (w':=w.alloc (.cells arr elem)) ?_ r1 ?_
   · rw [ex,ey]
     have hb:(e.bytes:Int) * Int.ofNat c<2 ^ 48:=by
      have h1:e.bytes * c<4096 * 4294967296:=by
       rcases Nat.eq_zero_or_pos c with h0 | h0
       · subst h0; simp
       · exact Nat.lt_of_lt_of_le (Nat.mul_lt_mul_of_pos_right q3 h0) (Nat.mul_le_mul_left _ (by omega))
      have:(e.bytes:Int) * Int.ofNat c=((e.bytes * c:Nat):Int):=by simp
      rw [this]; omega
     have hb':¬ ((e.bytes:Int) * (c:Int) > 281474976710656):=by
      have:(e.bytes:Int) * Int.ofNat c=(e.bytes:Int) * (c:Int):=rfl
      omega
     simp only [Instr.makeSlice,Sem.run_bind,J3 hT hd,hu,Result.andThen_ok,asInt,asIntOf,Sem.run_pure,typeInfo,run_program,g1,a5e l (by omega),a5e c (by omega),g4]
     have hcond:(decide (Int.ofNat c<0) || decide ((e.bytes:Int) * Int.ofNat c > 2 ^ 48) || decide (Int.ofNat l<0) || decide (Int.ofNat l > Int.ofNat c))=false:=by
      simp only [Bool.or_eq_false_iff,decide_eq_false_iff_not]
      refine ⟨⟨⟨?_, ?_⟩, ?_⟩, ?_⟩ <;> simp only [Int.ofNat_eq_natCast,Int.reducePow] at * <;> omega
     simp only [hcond,Bool.false_eq_true,if_false,run_askRoom,Sem.run_bind,Result.andThen_ok,L9 hT he]
     have hfin:∀ z:Array Value,(z=e.zero.cells∨c * e.size=0)→(Array.range (c * e.size)).map (fun x=>z[x % z.size]!)=arr:=by
      intro z hz
      rcases hz with rfl | h0
      · rfl
      · have hr0:Array.range 0=#[]:=rfl
        simp [h0,arr,hr0]
     simp only [Int.ofNat_eq_natCast,Int.toNat_natCast] at *
     by_cases h0:c * e.size=0
     · rw [if_pos h0]
       simp only [Sem.run_bind,Sem.run_pure,Result.andThen_ok,newRow,run_newObj]
       rw [hfin #[] (Or.inr h0)]
       rfl
     · rw [if_neg h0]
       simp only [Sem.run_bind,a1F hT he,Sem.run_pure,Result.andThen_ok,newRow,run_newObj]
       rw [hfin _ (Or.inl rfl)]
       rfl
   · refine VR.slice (off:=0) r2 (Nat.zero_le _) (by omega) q1 (Or.inr rfl) (Or.inr ⟨rfl,rfl,fun _=>?_⟩)
     dsimp only
     rw [hsz]; omega
 | _=>exact absurd h3 (by intro q; cases q)
theorem a3B {x:Value} {n y:Nat} (h:a0K x=some n) (hn:n≤y) (code:BoundsCode) (w:World):(Instr.sliceBound x y code).run P w=.ok n w:=by
 obtain ⟨k,rfl⟩:=a0G h
 simp [Instr.sliceBound,asIntOf,hn]
theorem a1v {lo hi:Option Value} {l hh len cap:Nat} (isS:Bool) (h1:V4 0 lo=some l) (h2:V4 len hi=some hh) (hl:l≤hh) (hle:hh≤len) (hc:len≤cap) (w:World) :
 (Instr.sliceBounds isS len cap lo hi none).run P w=.ok (l,hh,cap) w:=by
 unfold Instr.sliceBounds
 simp only [Sem.run_bind,Sem.run_pure,Result.andThen_ok]
 cases hi with
 | none=>
   cases h2
   simp only [Sem.run_bind,Sem.run_pure,Result.andThen_ok]
   cases lo with
   | none=>cases h1; rfl
   | some x=>simp only [Sem.run_bind,a3B h1 hl,Result.andThen_ok,Sem.run_pure]
 | some y=>
   simp only [Sem.run_bind,a3B h2 (Nat.le_trans hle hc),Result.andThen_ok]
   cases lo with
   | none=>cases h1; rfl
   | some x=>simp only [Sem.run_bind,a3B h1 hl,Result.andThen_ok,Sem.run_pure]
theorem b9V {o:Option Operand} {vs:List Value} (hf:VRL K a.tmps.toList fr) (hg:GK T K) (h:M0 T fr o.toList=some vs) :
 (o=none∧M8 vs 0=none)∨∃ x y,o=some x∧M8 vs 0=some y∧VR K (a.eval x) y:=by
 cases o with
 | none=>cases h; exact Or.inl ⟨rfl,rfl⟩
 | some x=>
   have h':(match J8 T fr x with | none=>none | some v=>some [v])=some vs:=h
   split at h'
   · cases h'
   · rename_i y hy; cases h'; exact Or.inr ⟨x,y,rfl,rfl,F5 hf hg hy⟩
theorem W9 {o:Option Operand} {vs:List Value} {d n:Nat} (hf:VRL K a.tmps.toList fr) (hg:GK T K) (h:M0 T fr o.toList=some vs) (hn:V4 d (M8 vs 0)=some n) :
 V4 d (o.map a.eval)=some n:=by
 rcases b9V hf hg h with ⟨rfl,e⟩ | ⟨x,y,rfl,e,r⟩
 · rw [e] at hn; exact hn
 · rw [e] at hn
   obtain ⟨k,rfl⟩:=a0G hn
   have:=r.eq_of_plain rfl
   show a0K (a.eval x)=some n
   rw [this]; rfl
theorem c0i {ad:Addr} {len elem:Nat} {lo hi:Option Value} (h:cut T ad len elem lo hi s=some (v,s')) :
 ∃ e l hh,T.types.get elem=some e∧V4 0 lo=some l∧V4 len hi=some hh∧l≤hh∧hh≤len∧e.size≠0∧v=.slice (some (fwd ad (l * e.size))) (hh - l) e.size∧s'=s:=by
 obtain ⟨e,he,h1⟩:=I8 h
 obtain ⟨l,hl,h2⟩:=C9 h1
 obtain ⟨hh,hhh,h3⟩:=C9 h2
 obtain ⟨hgd,h4⟩:=A8 h3
 obtain ⟨rfl,rfl⟩:=o9 h4
 simp only [Bool.and_eq_true] at hgd
 exact ⟨e,l,hh,he,hl,hhh,Nat.le_of_ble_eq_true hgd.1.1,Nat.le_of_ble_eq_true hgd.1.2,a5r hgd.2,rfl,rfl⟩
theorem a5K (x:ByteArray) (l h:Nat):x.extract l h=⟨⟨(x.data.toList.drop l).take (h - l)⟩⟩:=by
 have:=Lib.extract_data x l h
 cases e:x.extract l h with
 | mk d=>
   rw [e] at this
   congr 1
   exact Array.ext' this
theorem d4o (hT:TabOk P T) {t:TypeId} {x:Operand} {lo hi mx:Option Operand} (h:a2e T fr t x lo hi mx s=some (v,s')) (S:Sim B0 w0 K s.h w) (hf:VRL K a.tmps.toList fr) (hg:GK T K) :
 F9 P B0 w0 K s' (do pure (Next.value (← Instr.sliceAt t (a.eval x) (lo.map a.eval) (hi.map a.eval) (mx.map a.eval)))) w v:=by
 obtain ⟨vlo,e1,h1⟩:=a0h h
 obtain ⟨vhi,e2,h2⟩:=a0h h1
 obtain ⟨vmx,e3,h3⟩:=a0h h2
 obtain ⟨vx,e4,h4⟩:=K3 h3
 obtain ⟨d,hd,h5⟩:=I8 h4
 obtain ⟨hgd,h6⟩:=A8 h5
 have hmx:mx.map a.eval=none:=by
  rcases b9V hf hg e3 with ⟨rfl,_⟩ | ⟨y,z,rfl,q,_⟩
  · rfl
  · rw [q] at hgd; cases hgd
 rw [hmx]
 have rx:=F5 hf hg e4
 generalize hu:d.und=u at h6
 cases u with
 | string=>
   cases vx with
   | string b=>
     obtain ⟨l,hl,h7⟩:=C9 h6
     obtain ⟨hh,hhh,h8⟩:=C9 h7
     obtain ⟨hg2,h9⟩:=A8 h8
     rw [U3] at h9
     obtain ⟨rfl,rfl⟩:=o9 h9
     simp only [Bool.and_eq_true,J2,Array.length_toList] at hg2 hhh
     have q1:=Nat.le_of_ble_eq_true hg2.1
     have q2:hh≤b.size:=Nat.le_of_ble_eq_true hg2.2
     have ex:=rx.eq_of_plain rfl
     refine F9.quiet S rfl (v':=.string (b.extract l hh)) ?_ ?_
     · rw [ex]
       have hb:=a1v (P:=P) false (W9 hf hg e1 hl) (W9 hf hg e2 hhh) q1 q2 (Nat.le_refl b.size) w
       have hb':(Instr.sliceBounds false b.size b.size (lo.map a.eval) (hi.map a.eval) none).run P w=.ok (l,hh,b.size) w:=hb
       simp [Instr.sliceAt,Instr.slice,J3 hT hd,hu,hb']
     · rw [a5K,a2D,a2B]; exact .plain rfl
   | _=>exact absurd h6 (by intro q; cases q)
 | slice elem=>
   cases vx with
   | slice o len es=>
     obtain ⟨e0,he0,h7⟩:=I8 h6
     cases o with
     | some ad=>
       obtain ⟨hes,h8⟩:=A8 h7
       obtain ⟨e,l,hh,he,hl,hhh,q1,q2,q3,rfl,rfl⟩:=c0i h8
       rw [he0] at he; cases he
       have hes:=Nat.eq_of_beq_eq_true hes
       subst hes
       rcases U2 rx with ⟨ad1,ad',cap,p1,p2,p3,p4,p5,p6,p7⟩ | ⟨p1,_⟩
       · cases p1
         have hb:=a1v (P:=P) true (W9 hf hg e1 hl) (W9 hf hg e2 hhh) q1 q2 p3 w
         have hrun:(Instr.sliceAt t (a.eval x) (lo.map a.eval) (hi.map a.eval) none).run P w=.ok (.slice (if cap=l then some ad' else some (ad'.add (l * e0.size))) (hh - l) (cap - l)) w:=by
          rw [p2]
          simp only [Instr.sliceAt,Instr.slice,Sem.run_bind,J3 hT hd,hu,Result.andThen_ok,hb,L9 hT he0,Sem.run_pure]
          simp
         by_cases hc:cap=l
         · refine F9.quiet S rfl hrun ?_
           rw [if_pos hc]
           generalize hv1:Value.slice (some ad') len cap=z' at p4
           generalize hv2:Value.slice (some ad) len e0.size=z at p4
           cases p4 with
           | plain hp=>subst hv2; simp [V.plain] at hp
           | slice k1 k2 k3 k4 k5 k6=>
             cases hv1; cases hv2
             exact VR.slice k1 (Nat.le_trans k2 (Nat.le_add_right _ _)) k3 (by omega) (Or.inl (by omega)) (Or.inl (by omega))
           | _=>cases hv1
         · refine F9.quiet S rfl hrun ?_
           rw [if_neg hc]
           generalize hv1:Value.slice (some ad') len cap=z' at p4
           generalize hv2:Value.slice (some ad) len e0.size=z at p4
           cases p4 with
           | plain hp=>subst hv2; simp [V.plain] at hp
           | @slice b g off len' cap' es' l0 a0 k1 k2 k3 k4 k5 k6=>
             cases hv1; cases hv2
             rcases k6 with k6 | ⟨k6,k7,k8⟩
             · omega
             · obtain ⟨ab,ao,asp⟩:=ad'
               simp only at k5 k6 k7 k8
               obtain k5:=k5.resolve_left (by omega)
               subst k5 k6 k7
               rw [a1p]
               refine VR.slice k1 (Nat.le_trans k2 (Nat.le_add_right _ _)) k3 (by omega) (Or.inr rfl) (Or.inr ⟨rfl, ?_,fun ho=>?_⟩)
               · dsimp only; omega
               · have:=k8 ho
                 dsimp only
                 have e1:l * e0.size+(cap - l) * e0.size=cap * e0.size:=by rw [← Nat.add_mul]; congr 1; omega
                 omega
           | _=>cases hv1
       · cases p1
     | none=>
       obtain ⟨hl0,h7⟩:=A8 h7
       obtain ⟨l,hl,h8⟩:=C9 h7
       obtain ⟨hh,hhh,h9⟩:=C9 h8
       obtain ⟨hg2,h10⟩:=A8 h9
       obtain ⟨rfl,rfl⟩:=o9 h10
       simp only [Bool.and_eq_true] at hg2
       have q1:=Nat.eq_of_beq_eq_true hg2.1
       have q2:=Nat.eq_of_beq_eq_true hg2.2
       subst q1 q2
       rcases U2 rx with ⟨_,_,_,p1,_⟩ | ⟨_,p2,p3,p4⟩
       · cases p1
       · have hb:=a1v (P:=P) true (W9 hf hg e1 hl) (W9 hf hg e2 hhh) (Nat.le_refl 0) (Nat.le_refl 0) (Nat.le_refl 0) w
         refine F9.quiet S rfl (v':=.slice none 0 0) ?_ (.plain rfl)
         rw [p4]
         simp only [Instr.sliceAt,Instr.slice,Sem.run_bind,J3 hT hd,hu,Result.andThen_ok,hb,L9 hT he0,Sem.run_pure]
         simp
   | _=>exact absurd h6 (by intro q; cases q)
 | array n elem=>
   obtain ⟨ad,rfl,h7⟩:=a0f h6
   obtain ⟨e0,he0,h8⟩:=I8 h7
   obtain ⟨us,s1,h9,h10⟩:=w9 h8
   obtain ⟨e,l,hh,he,hl,hhh,q1,q2,q3,rfl,rfl⟩:=c0i h10
   rw [he0] at he; cases he
   obtain ⟨ad',p1,r⟩:=a1n rx
   obtain ⟨us',r1,r2,r3,r4,r5⟩:=a2Z (P:=P) h9 S r
   have hb:=a1v (P:=P) false (W9 hf hg e1 hl) (W9 hf hg e2 hhh) q1 q2 (Nat.le_refl n) w
   have hrun:(Instr.sliceAt t (a.eval x) (lo.map a.eval) (hi.map a.eval) none).run P w=.ok (.slice (some (if n=l then ad' else ad'.add (l * e0.size))) (hh - l) (n - l)) w:=by
    rw [p1]
    simp only [Instr.sliceAt,Sem.run_bind,J3 hT hd,hu,Result.andThen_ok,Instr.sureAddr,hb,L9 hT he0,Sem.run_pure]
   refine F9.quiet S r5 hrun ?_
   obtain ⟨g,cs,cur,ro,z1,z2,z3,z4,z5⟩:=a1Q h9
   obtain ⟨g',l0,y1,y2,y3,rfl⟩:=a0X r
   rw [z1] at y1; cases y1
   obtain ⟨vs2,x1,x2,x3⟩:=a1q S y2 y3 z2 z3
   obtain ⟨ab,ao,asp⟩:=ad
   cases z1
   by_cases hc:n=l
   · rw [if_pos hc]
     exact VR.slice y2 (Nat.le_trans y3 (Nat.le_add_right _ _)) (by omega) (by omega) (Or.inr rfl) (Or.inl (by omega))
   · rw [if_neg hc,a1p]
     refine VR.slice y2 (Nat.le_trans y3 (Nat.le_add_right _ _)) (by omega) (by omega) (Or.inr rfl) (Or.inr ⟨rfl, ?_,fun ho=>?_⟩)
     · dsimp only at y3 ⊢; omega
     · obtain ⟨c,et,fz,c1,c2,c3⟩:=S.room _ _ l0 cs cur ro y2 ho z2
       have hpos:0<n * e0.size:=Nat.mul_pos (by omega) (by omega)
       have hlen:vs2.length=n * e0.size:=by rw [x1.len,x2]
       have hlast:=x3 (n * e0.size - 1) _ (List.getElem?_eq_getElem (by omega))
       simp only [World.cell?,c1] at hlast
       have:=(Array.getElem?_eq_some_iff.1 (by simpa using hlast)).1
       have e1:l * e0.size+(n - l) * e0.size=n * e0.size:=by rw [← Nat.add_mul]; congr 1; omega
       dsimp only at *
       omega
 | _=>exact absurd h6 (by intro q; cases q)
end
end Go.V
end
section
namespace Go.V
open Go.RowKit (Below)
section
variable {P:Program} {T:Tab} {B0:Nat} {w0:Base} {w:World} {K:KM} {s s':S} {v:Value}
theorem c9A (b:ByteArray):(b.extract 0 b.size).data.map (fun x=>Value.int .u8 x.toNat)=(b.data.toList.map a0x).toArray:=by
 rw [a5K]
 apply Array.ext'
 rw [Array.toList_map]
 have:b.data.toList.length≤b.size:=Nat.le_refl _
 simp only [List.drop_zero,Nat.sub_zero,List.take_of_length_le this]
 rfl
theorem c6V {ad:Addr} {n:Nat} {s1:S} {vs:List Value} (h:loadN ad n s=some (vs,s1)) (S:Sim B0 w0 K s.h w)
 {a':Addr} (r:VR K (.pointer (some a')) (.pointer (some ad))) :
 ∃ vs':List Value,(∀ w2:World,(∀ x,w2.cell? x=w.cell? x)→(loadCells a' n).run P w2=.ok vs'.toArray w2)∧VRL K vs' vs∧vs'.length=n∧s1.c=s.c∧s1.h=s.h:=by
 obtain ⟨g,cs,cur,ro,e1,e2,e3,e4,e5⟩:=a1Q h
 obtain ⟨g',l,f1,f2,f3,rfl⟩:=a0X r
 rw [e1] at f1; cases f1
 obtain ⟨vs',c1,c2,c3⟩:=a1q S f2 f3 e2 e3
 have hn:vs'.length=n:=by rw [c1.len,c2]
 refine ⟨vs',fun w2 hw=>?_,c1,hn,e4,e5⟩
 have:=run_loadCells_list (P:=P) w2 (⟨l.blk,l.at_+(ad.off - l.lo),none⟩:Addr) vs' (fun j v hj=>by rw [a1p,hw]; exact c3 j v hj)
 rw [hn] at this
 exact this
theorem a5P {size:Nat} {x x':Value} {vs:List Value} {s1:S} (h:a3J size x s=some (vs,s1)) (hpos:0<size) (S:Sim B0 w0 K s.h w) (r:VR K x' x) :
 ∃ n vs',(∀ w2:World,(Builtin.lenOf x').run P w2=.ok n w2)∧(∀ w2:World,(∀ x,w2.cell? x=w.cell? x)→(Builtin.firstCells size n x').run P w2=.ok vs'.toArray w2)∧VRL K vs' vs∧vs'.length=n * size∧s1.h=s.h∧s1.c=s.c:=by
 cases x with
 | slice o len es=>
   cases o with
   | none=>
     obtain ⟨hl,h1⟩:=A8 h
     obtain ⟨rfl,rfl⟩:=o9 h1
     rcases U2 r with ⟨_,_,_,p1,_⟩ | ⟨_,p2,p3,p4⟩
     · cases p1
     · exact ⟨0, [],by rw [p4]; intro _; rfl,by rw [p4]; intro _ _; rfl,VRL.nil K,by simp,rfl,rfl⟩
   | some ad=>
     rcases U2 r with ⟨ad1,ad',cap,p1,p2,p3,p4,p5,p6,p7⟩ | ⟨p1,_⟩
     · cases p1
       cases len with
       | zero=>
         have h1:M.pure [] s=some (vs,s1):=h
         obtain ⟨rfl,rfl⟩:=o9 h1
         exact ⟨0, [],by rw [p2]; intro _; rfl,by rw [p2]; intro _ _; simp [Builtin.firstCells,loadCells,loadCellsFrom],VRL.nil K,by simp,rfl,rfl⟩
       | succ len=>
         have h1:M.guard (Nat.beq es size) (loadN ad ((len+1) * size)) s=some (vs,s1):=h
         obtain ⟨he,h2⟩:=A8 h1
         obtain ⟨vs',r1,r2,r3,r4,r5⟩:=c6V (P:=P) h2 S (p7 (by omega))
         exact ⟨len+1,vs',by rw [p2]; intro _; rfl,by rw [p2]; exact r1,r2,r3,r5,r4⟩
     · cases p1
 | string b=>
   obtain ⟨hl,h1⟩:=A8 h
   obtain ⟨rfl,rfl⟩:=o9 h1
   have hs:=Nat.eq_of_beq_eq_true hl
   subst hs
   have ex:=r.eq_of_plain rfl
   refine ⟨b.size,b.data.toList.map a0x,by rw [ex]; intro _; rfl,by rw [ex]; intro _ _; simp only [Builtin.firstCells]; rw [c9A]; rfl, ?_,by show (b.data.toList.map a0x).length=b.data.size * 1; simp,rfl,rfl⟩
   rw [Q6]
   exact VRL.refl_plain _ (fun y hy=>by obtain ⟨z,_,rfl⟩:=List.mem_map.1 hy; rfl)
 | _=>exact absurd h (by intro q; cases q)
theorem b0H (newLen:Nat):∀ (n c:Nat),c≤2 * newLen+192→c<newLen∨True→Builtin.growBy newLen n c≤2 * newLen+192
 | 0,c,h,_=>h
 | n+1,c,h,_=>by
   unfold Builtin.growBy
   split
   · exact h
   · exact b0H newLen n _ (by omega) (Or.inr trivial)
theorem c3Y (need cap:Nat) (h:cap<need):Builtin.nextslicecap need cap≤2 * need+192:=by
 unfold Builtin.nextslicecap
 split
 · omega
 · split
   · omega
   · exact b0H need 4 cap (by omega) (Or.inr trivial)
theorem a4l {argTypes:Array TypeId} {ty st xt elem:TypeId} {dx:TypeDesc} {size n:Nat} {base:Option Addr} {len cap:Nat} {x':Value} {vs':List Value} {w':World}
 (h0:argTypes[0]?=some st) (h1:argTypes[1]?=some xt) (hst:(underlying st).run P w=.ok (.slice elem) w) (hxt:(underlying xt).run P w=.ok dx w) (hdx:a5V dx=false)
 (hsz:(sizeOf elem).run P w=.ok size w) (hn:(Builtin.lenOf x').run P w=.ok n w) (hfc:(Builtin.firstCells size n x').run P w=.ok vs'.toArray w) (hle:len+n≤cap)
 (hnone:base=none→w'=w) (hsome:∀ ad,base=some ad→(storeCells (ad.add (len * size)) vs').run P w=.ok () w') :
 (Builtin.append_ argTypes ty #[.slice base len cap,x']).run P w=.ok (.slice base (len+n) cap) w':=by
 unfold Builtin.append_
 simp only [h0,h1]
 simp only [List.getElem?_toArray,List.getElem?_cons_zero,List.getElem?_cons_succ]
 simp only [Sem.run_bind,hst,Result.andThen_ok,hsz,hxt,Sem.run_pure]
 cases dx with
 | int k=>cases hdx
 | _=>
   simp only [Bool.false_eq_true,if_false,Bool.not_false,if_true,Sem.run_bind,hn,Result.andThen_ok,hle,hfc]
   cases base with
   | none=>rw [hnone rfl]; rfl
   | some ad=>simp only [Sem.run_bind,hsome ad rfl,Result.andThen_ok,Sem.run_pure]
theorem a2W {argTypes:Array TypeId} {ty st xt elem:TypeId} {dx:TypeDesc} {n:Nat} {e:TI} {base:Option Addr} {len cap:Nat} {x':Value} {vs' olds:List Value}
 (hT:TabOk P T) (h0:argTypes[0]?=some st) (h1:argTypes[1]?=some xt) (hst:∀ w,(underlying st).run P w=.ok (.slice elem) w) (hxt:∀ w,(underlying xt).run P w=.ok dx w) (hdx:a5V dx=false)
 (he:T.types.get elem=some e) (hn:(Builtin.lenOf x').run P w=.ok n w) (hfc:(Builtin.firstCells e.size n x').run P w.drew=.ok vs'.toArray w.drew)
 (hold:(Builtin.firstCells e.size len (.slice base len cap)).run P w.drew=.ok olds.toArray w.drew) (hlt:cap<len+n) (hsmall:(len+n) * 4<4294967296) (hb:e.bytes<4096) (hpos:0<e.size) :
 ∃ nc arr,len+n≤nc∧arr.toList=olds ++ vs' ++ Y4 e.zero.cells.toList (nc - (len+n)) ∧
   (Builtin.append_ argTypes ty #[.slice base len cap,x']).run P w=.ok (.slice (some ⟨w.heap.size, 0,none⟩) (len+n) nc) (w.drew.alloc (.cells arr elem)):=by
 obtain ⟨info,g1,g2,g3,g4,g5,g6⟩:=hT.types elem e he
 let nc:=(Question.appendCap (len+n) cap elem).cut (w.tape w.drawn (Question.appendCap (len+n) cap elem))
 have hnc:len+n≤nc:=by
  show len+n≤(len+n)+_ % _
  exact Nat.le_add_right _ _
 refine ⟨nc,olds.toArray ++ vs'.toArray ++ Builtin.zeroCells e.zero.cells (nc - (len+n)),hnc, ?_, ?_⟩
 · have hz:=a4U e.zero.cells (nc - (len+n)) (by rw [g6]; exact hpos)
   simp only [Array.toList_append]
   rw [← hz]
   rfl
 · have hnb:¬ (Builtin.nextslicecap (len+n) cap * e.bytes > 2 ^ 48):=by
    have h1:=c3Y (len+n) cap hlt
    have h2:Builtin.nextslicecap (len+n) cap * e.bytes≤(2 * (len+n)+192) * 4096:=Nat.mul_le_mul h1 (by omega)
    have:(2:Nat) ^ 48=281474976710656:=rfl
    omega
   have hni:¬ (((len+n:Nat):Int) > IntKind.i64.max):=by
    have:IntKind.i64.max=9223372036854775807:=rfl
    rw [this]; omega
   have hnle:¬ (len+n≤cap):=by omega
   unfold Builtin.append_
   simp only [h0,h1]
   simp only [List.getElem?_toArray,List.getElem?_cons_zero,List.getElem?_cons_succ]
   simp only [Sem.run_bind,hst,Result.andThen_ok,L9 hT he,hxt,Sem.run_pure]
   cases dx with
   | int k=>cases hdx
   | _=>
     simp only [Bool.false_eq_true,if_false,Bool.not_false,if_true,Sem.run_bind,hn,Result.andThen_ok,hnle,typeInfo,run_program,g1,Sem.run_pure,hni,false_and,g4,hnb]
     simp only [run_choose,Question.forced,Bool.false_eq_true,if_false,Result.andThen_ok,run_askRoom]
     have hd:({ w with drawn:=w.drawn+1 }:World)=w.drew:=rfl
     simp only [hd,hold,Result.andThen_ok,hfc,a1F hT he,newRow,Sem.run_bind,run_newObj,Sem.run_pure]
     rfl
end
end Go.V
end
