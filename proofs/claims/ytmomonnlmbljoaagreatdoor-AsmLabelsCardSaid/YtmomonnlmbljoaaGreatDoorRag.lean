import Derived.Test.YtmomonnlmbljoaaGreatDoorRaf
section
namespace Go.V
open Go.RowKit (Below)
theorem b0A (k v:Value):∀ (es:List (Value×Value)),(∀ e∈es,P6 k e.1=some false)→a2T k v es=es ++ [(k,v)]
 | [],_=>rfl
 | e::es,h=>by
   have h1:=h e (List.mem_cons_self ..)
   show (match P6 k e.1 with | some true=>(k,v)::es | _=>e::a2T k v es)=_
   rw [h1,b0A k v es (fun x hx=>h x (List.mem_cons_of_mem _ hx))]
   rfl
theorem a5i (k v:Value):∀ (es:List (Value×Value)) (j:Nat),(∀ (m:Nat) e,m<j→es[m]?=some e→P6 k e.1=some false)→(∃ e,es[j]?=some e∧P6 k e.1=some true)→a2T k v es=es.set j (k,v)
 | [],j,_,⟨e,h,_⟩=>by simp at h
 | e::es, 0,_,⟨e',h,h2⟩=>by
   simp at h; subst h
   show (match P6 k e.1 with | some true=>(k,v)::es | _=>e::a2T k v es)=_
   rw [h2]; rfl
 | e::es,j+1,h,⟨e',h1,h2⟩=>by
   have h0:=h 0 e (by omega) rfl
   show (match P6 k e.1 with | some true=>(k,v)::es | _=>e::a2T k v es)=_
   rw [h0]
   show e::a2T k v es=_
   rw [a5i k v es j (fun m x hm hx=>h (m+1) x (by omega) (by simpa using hx)) ⟨e',by simpa using h1,h2⟩]
   rfl
theorem b7Y {k x:Value} (h:P6 k x=some true):k=x∧∀ n,Instr.sameBits n x k=true:=by
 cases k with
 | int k1 n1=>
   cases x with
   | int k2 n2=>
     have h':(match decide (k1=k2) with | true=>some (decide (n1=n2)) | false=>none)=some true:=h
     by_cases hk:k1=k2
     · rw [decide_eq_true hk] at h'
       have:n1=n2:=by simpa using h'
       subst hk this
       exact ⟨rfl,fun n=>by cases n <;> simp [Instr.sameBits]⟩
     · rw [decide_eq_false hk] at h'; cases h'
   | _=>cases h
 | string s1=>
   cases x with
   | string s2=>
     have h':some (beqBytes s1.data.toList s2.data.toList)=some true:=h
     rw [S9] at h'
     have:s1=s2:=by
      have:s1.data.toList=s2.data.toList:=by simpa using h'
      cases s1; cases s2; congr 1; exact Array.ext' this
     subst this
     refine ⟨rfl,fun n=>?_⟩
     have hb:(s1 == s1)=true:=by rw [b0w,S9]; simp
     cases n <;> simp [Instr.sameBits,hb]
   | _=>cases h
 | bool b1=>
   cases x with
   | bool b2=>
     have h':some (b1 == b2)=some true:=h
     have:b1=b2:=by simpa using h'
     subst this
     exact ⟨rfl,fun n=>by cases n <;> simp [Instr.sameBits]⟩
   | _=>cases h
 | _=>cases h
section
variable {P:Program} {T:Tab} {B0:Nat} {w0:Base} {w:World} {K:KM} {s s':S} {a:Act} {fr:List Value} {v:Value}
theorem a2G {r:Nat} {o o':Obj} (h:w.heap[r]?=some o) (hn:∀ c e f,o≠.cells c e f):(setObj r o').run P w=.ok () { w with heap:=w.heap.setIfInBounds r o' }:=by
 cases o with
 | cells c e f=>exact absurd rfl (hn c e f)
 | _=>simp only [setObj,Sem.run,h]
theorem c0Z (hT:TabOk P T) {t:TypeId} {m k x m' k' x':Value} {un:Unit} (h:a1A T t m k x s=some (un,s')) (S:Sim B0 w0 K s.h w) (rm:VR K m' m) (rk:VR K k' k) (rx:VR K x' x) :
 ∃ w',(Instr.mapUpdate t m' k' x').run P w=.ok () w'∧Sim B0 w0 K s'.h w'∧s'.c=s.c:=by
 obtain ⟨d,hd,h1⟩:=I8 h
 generalize hu:d.und=u at h1
 cases u with
 | map key elem=>
   cases m with
   | map o=>
     obtain ⟨r,rfl,h2⟩:=C9 h1
     obtain ⟨kd,hk,h3⟩:=I8 h2
     obtain ⟨hfit,h4⟩:=A8 h3
     obtain ⟨es,s1,h5,h6⟩:=w9 h4
     obtain ⟨fo,ho,h7⟩:=C9 h6
     rw [U3] at h7
     have ek:k'=k:=rk.eq_of_plain (a2L hfit)
     subst ek
     obtain ⟨c1,c2,c3⟩:=a2a (x:=.map (some r)) h5 S rm
     rcases c3 with ⟨q1,_⟩ | ⟨b,l,es',clock,q0,q2,q3,q4,q5,q6,q7⟩
     · exfalso
       subst q1
       generalize hv:Value.map (some r)=z at rm
       cases rm with
       | plain hp=>cases hv
       | _=>cases hv
     · cases q0
       subst q2
       obtain ⟨w1,w2,w3⟩:=a5z h7
       obtain ⟨r',n1,n2⟩:=a4j (K:=K) hfit es es'.toList 0 fo ho q7
       have hfk:(Instr.findKey key k' es'.toList).run P w=.ok r' w:=by
        unfold Instr.findKey
        simp only [Sem.run_bind,J3 hT hk,Result.andThen_ok,n1,Sem.run_pure]
       have hck:=a3A (P:=P) hT hk hfit false 9999 w
       have hget:∀ j,s'.h.get j=if j=r then some (.map (a2T k' x es)) else s.h.get j:=by
        intro j; rw [w3 j,c1]
       rcases n2 with ⟨_,rfl,hall⟩ | ⟨j,z,z',_,rfl,hz,hj,hbefore,e,he,hsame⟩
       · refine ⟨{ w with heap:=w.heap.setIfInBounds l.blk (.map (es'.push { key:=k',val:=x',born:=clock }) (clock+1)) }, ?_, ?_,by rw [w2,c2]⟩
         · unfold Instr.mapUpdate
           simp only [Sem.run_bind,J3 hT hd,hu,Result.andThen_ok,a0i q6 (by intro c e f q; cases q),hck,hfk,a2G q6 (by intro c e f q; cases q)]
         · refine a2v S q3 q4 q5 (by intro _ _ _ q; cases q) (by intro _ _ _ q; cases q) hget rfl (fun es2 q=>?_) (fun x pos q=>by cases q)
           cases q
           refine ⟨_,_,rfl, ?_⟩
           rw [b0A k' x es hall]
           refine ⟨by simp [q7.len],fun i e' e p1 p2=>?_⟩
           have hlen:es'.toList.length=es.length:=q7.len
           simp only [Array.toList_push] at p1
           by_cases hi:i<es.length
           · rw [List.getElem?_append_left (by rw [hlen]; exact hi)] at p1
             rw [List.getElem?_append_left hi] at p2
             exact q7.key i e' e p1 p2
           · rw [List.getElem?_append_right (by rw [hlen]; omega),hlen] at p1
             rw [List.getElem?_append_right (by omega)] at p2
             cases hi2:i - es.length with
             | zero=>rw [hi2] at p1 p2; cases p1; cases p2; exact ⟨rfl,rx⟩
             | succ n=>rw [hi2] at p1; simp at p1
       · obtain ⟨hkeq,hbits⟩:=b7Y hsame
         have hlen:es'.toList.length=es.length:=q7.len
         have hj':j<es'.size:=by rw [← Array.length_toList,hlen]; exact hj
         obtain ⟨e0,he0⟩:∃ e0,es'.toList[j]?=some e0:=⟨es'.toList[j]'(by simpa using hj'),List.getElem?_eq_getElem (by simpa using hj')⟩
         have hek:=(q7.key j e0 e he0 he).1
         refine ⟨{ w with heap:=w.heap.setIfInBounds l.blk (.map (es'.modify j fun e=>{ e with key:=k',val:=x' }) clock) }, ?_, ?_,by rw [w2,c2]⟩
         · unfold Instr.mapUpdate
           rw [Nat.zero_add] at hfk
           have hstay:(Instr.keyThatStays (((es'[j]?).map (·.key)).getD k') k').run P w=.ok k' w:=by
            have:es'[j]?=some e0:=by simpa using he0
            rw [this]
            show (Instr.keyThatStays e0.key k').run P w=_
            unfold Instr.keyThatStays
            rw [hek,if_pos (hbits 10000)]
            rfl
           simp only [Sem.run_bind,J3 hT hd,hu,Result.andThen_ok,a0i q6 (by intro c e f q; cases q),hck,hfk,hstay,a2G q6 (by intro c e f q; cases q)]
         · refine a2v S q3 q4 q5 (by intro _ _ _ q; cases q) (by intro _ _ _ q; cases q) hget rfl (fun es2 q=>?_) (fun x pos q=>by cases q)
           cases q
           refine ⟨_,_,rfl, ?_⟩
           rw [a5i k' x es j hbefore ⟨e,he,hsame⟩]
           refine ⟨by simp [hlen],fun i e' e2 p1 p2=>?_⟩
           have p1':(es'.modify j fun e=>{ e with key:=k',val:=x' })[i]?=some e':=by rw [← Array.getElem?_toList]; exact p1
           rw [Array.getElem?_modify] at p1'
           rw [List.getElem?_set] at p2
           by_cases hij:j=i
           · subst hij
             rw [if_pos rfl] at p1' p2
             rw [if_pos hj] at p2
             cases p2
             have:es'[j]?=some e0:=by simpa using he0
             rw [this] at p1'
             cases p1'
             exact ⟨rfl,rx⟩
           · rw [if_neg hij] at p1' p2
             exact q7.key i e' e2 (by simpa using p1') p2
   | _=>exact absurd h1 (by intro q; cases q)
 | _=>exact absurd h1 (by intro q; cases q)
theorem b0G (hT:TabOk P T) {t:TypeId} {m k x:Operand} (h:Y1 T fr t m k x s=some (v,s')) (S:Sim B0 w0 K s.h w) (hf:VRL K a.tmps.toList fr) (hg:GK T K) :
 F9 P B0 w0 K s' (do Instr.mapUpdate t (a.eval m) (a.eval k) (a.eval x); pure Next.skip) w v:=by
 obtain ⟨vm,e1,h1⟩:=K3 h
 obtain ⟨vk,e2,h2⟩:=K3 h1
 obtain ⟨vx,e3,h3⟩:=K3 h2
 obtain ⟨un,s1,h4,h5⟩:=w9 h3
 obtain ⟨rfl,rfl⟩:=o9 h5
 obtain ⟨w',r1,r2,r3⟩:=c0Z (P:=P) hT h4 S (F5 hf hg e1) (F5 hf hg e2) (F5 hf hg e3)
 exact ⟨.skip,w',K,by simp [r1],⟨KM.le_refl K,fun _ _ _=>rfl,r2⟩,Or.inr ⟨rfl,rfl⟩⟩
theorem a7E {o:VObj} {b:Nat} {s1:S} {ob:Obj} (h:new o s=some (b,s1)) (S:Sim B0 w0 K s.h w) (F:K8 K s s1) (hn:∀ cs cur ro,o≠.cells cs cur ro)
 (hmap:∀ es,o=.map es→∃ es' clock,ob=.map es' clock∧MR K es'.toList es) (hiter:∀ x pos,o=.siter x pos→ob=.stringIter x pos) :
 ∃ K',Step B0 w0 K s1 (w.alloc ob) K'∧K' s.c 0=some ⟨w.heap.size, 0, 0, 0,true⟩∧b=s.c:=by
 rw [a5k] at h
 cases h
 have hK:∀ g,K s.c g=none:=S.none (F s.c (Nat.le_refl _) (by show s.c<s.c+1; omega))
 have hblk:(w.alloc ob).heap[w.heap.size]?=some ob:=by show (w.heap.push _)[w.heap.size]?=_; simp
 refine ⟨K.put s.c 0 ⟨w.heap.size, 0, 0, 0,true⟩,⟨KM.le_put K _ (hK 0),fun i g hi=>KM.put_other K _ (fun q=>by have hi:s.c+1≤i:=hi; omega), ?_⟩,KM.put_same _ _ _ _,rfl⟩
 refine c0f (o:=o) (a0z S (Grew.alloc _ _)) hK (fun j=>Trie.get_put _ _ _ _ (Nat.lt_succ_self _) j) (by show w.heap.size<(w.heap.push _).size; simp) S.base rfl
  (fun b g l q=>by have:=S.dom b g l q; show l.blk≠w.heap.size; omega) (fun cs cur ro q=>absurd q (hn _ _ _)) (fun es q=>?_) (fun x pos q=>⟨rfl,rfl, ?_⟩)
 · obtain ⟨es',clock,rfl,r⟩:=hmap es q
   exact ⟨es',clock,hblk,r⟩
 · rw [← hiter x pos q]; exact hblk
theorem e0S (hT:TabOk P T) {t:TypeId} {r:Option Operand} (h:a5N T fr t r s=some (v,s')) (S:Sim B0 w0 K s.h w) (F:K8 K s s') (hf:VRL K a.tmps.toList fr) (hg:GK T K) :
 F9 P B0 w0 K s' (do pure (Next.value (← Instr.makeMap t (r.map a.eval)))) w v:=by
 have hmr:∀ es,VObj.map []=.map es→∃ es' clock,Obj.map #[] 0=.map es' clock∧MR K es'.toList es:=by
  intro es q; cases q; exact ⟨#[], 0,rfl,⟨rfl,fun i e' e q=>by simp at q⟩⟩
 cases r with
 | none=>
   have h':M.bind (new (.map [])) (fun b=>M.pure (.map (some b))) s=some (v,s'):=h
   obtain ⟨b,s1,h1,h2⟩:=w9 h'
   obtain ⟨rfl,rfl⟩:=o9 h2
   obtain ⟨K',k1,k2,rfl⟩:=a7E (ob:=.map #[] 0) h1 S F (by intro _ _ _ q; cases q) hmr (by intro _ _ q; cases q)
   refine F9.step (v':=.map (some w.heap.size)) (w':=w.alloc (.map #[] 0)) ?_ k1 (VR.map k2)
   simp [Instr.makeMap]
 | some x=>
   have h':ev T fr x (fun v=>ti T t fun d=>M.guard (d2u d.und && d0X v) <| M.bind (new (.map [])) fun b=>M.pure (.map (some b))) s=some (v,s'):=h
   obtain ⟨vx,e1,h1⟩:=K3 h'
   obtain ⟨d,hd,h2⟩:=I8 h1
   obtain ⟨hgd,h3⟩:=A8 h2
   obtain ⟨b,s1,h4,h5⟩:=w9 h3
   obtain ⟨rfl,rfl⟩:=o9 h5
   simp only [Bool.and_eq_true] at hgd
   obtain ⟨K',k1,k2,rfl⟩:=a7E (ob:=.map #[] 0) h4 S F (by intro _ _ _ q; cases q) hmr (by intro _ _ q; cases q)
   refine F9.step (v':=.map (some w.heap.size)) (w':=w.alloc (.map #[] 0)) ?_ k1 (VR.map k2)
   cases vx with
   | int kk n=>
     have ex:a.eval x=.int kk n:=(F5 hf hg e1).eq_of_plain rfl
     cases hu:d.und with
     | map k1 k2=>simp [Instr.makeMap,ex,J3 hT hd,hu,asInt,asIntOf]
     | _=>rw [hu] at hgd; cases hgd.1
   | _=>cases hgd.2
theorem d5V (hT:TabOk P T) {t:TypeId} {x:Operand} (h:a2p T fr t x s=some (v,s')) (S:Sim B0 w0 K s.h w) (F:K8 K s s') (hf:VRL K a.tmps.toList fr) (hg:GK T K) :
 F9 P B0 w0 K s' (do pure (Next.value (← Instr.range t (a.eval x)))) w v:=by
 obtain ⟨vx,e1,h1⟩:=K3 h
 obtain ⟨d,hd,h2⟩:=I8 h1
 generalize hu:d.und=u at h2
 cases u with
 | string=>
   cases vx with
   | string b=>
     obtain ⟨n,s1,h3,h4⟩:=w9 h2
     obtain ⟨rfl,rfl⟩:=o9 h4
     have ex:a.eval x=.string b:=(F5 hf hg e1).eq_of_plain rfl
     obtain ⟨K',k1,k2,rfl⟩:=a7E (ob:=.stringIter b 0) h3 S F (by intro _ _ _ q; cases q) (by intro _ q; cases q) (by intro _ _ q; cases q; rfl)
     refine F9.step (v':=.pointer (some ⟨w.heap.size, 0,none⟩)) (w':=w.alloc (.stringIter b 0)) ?_ k1 (VR.ptr (off:=0) k2 (Nat.zero_le _))
     simp [Instr.range,J3 hT hd,hu,ex]
   | _=>exact absurd h2 (by intro q; cases q)
 | _=>exact absurd h2 (by intro q; cases q)
theorem d8D {x:Operand} {str:Bool} {ty:TypeId} (h:a3E T fr x str s=some (v,s')) (S:Sim B0 w0 K s.h w) (hf:VRL K a.tmps.toList fr) (hg:GK T K) :
 F9 P B0 w0 K s' (do pure (Next.value (← Instr.next (a.eval x) str ty))) w v:=by
 obtain ⟨rfl,h1⟩:=A8 h
 obtain ⟨vx,e1,h2⟩:=K3 h1
 obtain ⟨ad,rfl,h3⟩:=a0f h2
 obtain ⟨h0,h4⟩:=A8 h3
 obtain ⟨o,s1,h5,h6⟩:=w9 h4
 obtain ⟨q1,q2,q3,q4⟩:=a5p h5
 simp only [Bool.and_eq_true] at h0
 have h00:=Nat.eq_of_beq_eq_true h0.1
 cases o with
 | siter b pos=>
   obtain ⟨l,r1,r2,r3,r4,r5⟩:=S.siter _ b pos q2
   obtain ⟨ad',e2,r⟩:=a1n (F5 hf hg e1)
   obtain ⟨g,l',f1,f2,f3,rfl⟩:=a0X r
   have hg0:g=0:=by
    have:=h0.2; rw [f1] at this; exact Nat.eq_of_beq_eq_true this
   subst hg0
   rw [r1] at f2; cases f2
   have ead:(⟨l.blk,l.at_+(ad.off - l.lo),none⟩:Addr)=⟨l.blk, 0,none⟩:=by rw [r3,r4,h00]
   rw [ead] at e2
   have h6':a5l ad.block b pos s1=some (v,s'):=h6
   unfold a5l at h6'
   have hsz:F4 b.data.toList=b.size:=by rw [J2]; rfl
   rw [hsz] at h6'
   cases hlt:Nat.blt pos b.size with
   | true=>
     rw [hlt] at h6'
     simp only [Y9] at h6'
     obtain ⟨un,s2,h7,h8⟩:=w9 h6'
     obtain ⟨rfl,rfl⟩:=o9 h8
     obtain ⟨_,w2,w3⟩:=a5z h7
     have hlt':pos<b.size:=by simpa [Nat.blt_eq] using hlt
     refine F9.step (v':=.tuple #[.bool true,goInt pos,.int .i32 (Utf8.decode b pos).1]) (w':={ w with heap:=w.heap.setIfInBounds l.blk (.stringIter b (pos+(Utf8.decode b pos).2)) }) (K':=K) ?_ ⟨KM.le_refl K,fun _ _ _=>rfl, ?_⟩ (L8 3 _ rfl)
     · rw [e2]
       unfold Instr.next
       simp only [Sem.run_bind,a0i r5 (by intro c e f q; cases q),Result.andThen_ok,hlt',if_true,a2G r5 (by intro c e f q; cases q),Sem.run_pure]
     · refine a2v (o:=.siter b pos) (o':=.siter b (pos+(Utf8.decode b pos).2)) S r1 r2 q2 (by intro _ _ _ q; cases q) (by intro _ _ _ q; cases q) (fun j=>by rw [w3 j,q4]) rfl (fun es q=>by cases q) (fun x p q=>by cases q; exact ⟨r3,r4,rfl⟩)
   | false=>
     rw [hlt] at h6'
     obtain ⟨rfl,rfl⟩:=o9 h6'
     have hlt':¬ pos<b.size:=by
      intro q; have:Nat.blt pos b.size=true:=by simpa [Nat.blt_eq] using q
      rw [this] at hlt; cases hlt
     refine F9.quiet S q4 (v':=.tuple #[.bool false]) ?_ (L8 3 _ rfl)
     rw [e2]
     unfold Instr.next
     simp only [Sem.run_bind,a0i r5 (by intro c e f q; cases q),Result.andThen_ok,hlt',if_false,Sem.run_pure]
 | _=>exact absurd h6 (by intro q; cases q)
end
end Go.V
end
section
namespace Go.V
open Go.RowKit (Below)
theorem a2I (k:IntKind) (M H:Int) (hM:(2 ^ k.bits:Int)=M) (hH:(2 ^ (k.bits - 1):Int)=H) (hs:k.signed=true) (hMH:M=2 * H) (m:Nat) (h:(m:Int)<H) :
 k.wrap (-((m:Int)+1))=-((m:Int)+1):=by
 unfold IntKind.wrap
 rw [hM,hH,hs]
 have e:(-((m:Int)+1)) % M=-((m:Int)+1)+M:=by
  rw [← Int.add_emod_right]
  exact Int.emod_eq_of_lt (by omega) (by omega)
 rw [e]
 simp only [Bool.true_and,decide_eq_true_eq]
 rw [if_pos (by omega)]
 omega
theorem a0y (k:IntKind) (n:Int):U6 k n=k.wrap n:=by
 cases n with
 | ofNat m=>
   show (match Nat.blt m (V8 k) with | true=>Int.ofNat m | false=>k.wrap (.ofNat m))=_
   cases h:Nat.blt m (V8 k) with
   | false=>rfl
   | true=>
     have hm:m<V8 k:=by simpa [Nat.blt_eq] using h
     show Int.ofNat m=k.wrap (Int.ofNat m)
     simp only [Int.ofNat_eq_natCast]
     cases k <;> simp only [V8] at hm <;> simp only [IntKind.wrap,IntKind.bits,IntKind.signed,Int.reducePow,Nat.reduceSub,Bool.true_and,Bool.false_and,decide_eq_true_eq,ge_iff_le,Bool.false_eq_true,if_false] <;> (try split) <;> omega
 | negSucc m=>
   show (match k.signed && Nat.blt m (V8 k) with | true=>Int.negSucc m | false=>k.wrap (.negSucc m))=_
   cases h:k.signed && Nat.blt m (V8 k) with
   | false=>rfl
   | true=>
     simp only [Bool.and_eq_true] at h
     have hm:m<V8 k:=by simpa [Nat.blt_eq] using h.2
     have hs:=h.1
     show Int.negSucc m=k.wrap (Int.negSucc m)
     rw [Int.negSucc_eq]
     symm
     cases k with
     | i8=>exact a2I .i8 256 128 rfl rfl rfl rfl m (by have hm:m<128:=hm; omega)
     | i16=>exact a2I .i16 65536 32768 rfl rfl rfl rfl m (by have hm:m<32768:=hm; omega)
     | i32=>exact a2I .i32 4294967296 2147483648 rfl rfl rfl rfl m (by have hm:m<2147483648:=hm; omega)
     | i64=>exact a2I .i64 18446744073709551616 9223372036854775808 rfl rfl rfl rfl m (by have hm:m<9223372036854775808:=hm; omega)
     | _=>cases hs
theorem a0S:∀ (x y:List UInt8),a0F x y=Op.bytesLess x y:=by
 intro x
 induction x with
 | nil=>intro y; cases y <;> rfl
 | cons a x ih=>
   intro y
   cases y with
   | nil=>rfl
   | cons b y=>
     show (match Nat.blt a.toNat b.toNat with | true=>true | false=>match Nat.beq a.toNat b.toNat with | true=>a0F x y | false=>false)=(decide (a<b) || (a == b && Op.bytesLess x y))
     rw [ih]
     by_cases h:a<b
     · have:Nat.blt a.toNat b.toNat=true:=by rw [Nat.blt_eq]; exact UInt8.lt_iff_toNat_lt.1 h
       rw [this]; simp [h]
     · have h1:Nat.blt a.toNat b.toNat=false:=by
        cases q:Nat.blt a.toNat b.toNat with
        | false=>rfl
        | true=>rw [Nat.blt_eq] at q; exact absurd (UInt8.lt_iff_toNat_lt.2 q) h
       rw [h1]
       by_cases h2:a=b
       · subst h2; simp
       · have h3:Nat.beq a.toNat b.toNat=false:=by
          cases q:Nat.beq a.toNat b.toNat with
          | false=>rfl
          | true=>exact absurd (UInt8.toNat_inj.1 (Nat.eq_of_beq_eq_true q)) h2
         rw [h3]; simp [h,h2]
section
variable {P:Program} {T:Tab} {B0:Nat} {w0:Base} {w:World} {K:KM} {s s':S} {a:Act} {fr:List Value} {v:Value}
theorem d0n {op:BinOp} {k:IntKind} {n m:Int} (h:a3V op k n m=some v) (t:TypeId) (w:World):(binOp op t (.int k n) (.int k m)).run P w=.ok v w:=by
 cases op <;> first
  | (cases h; done)
  | (cases h; simp [binOp,Op.intArith,Op.intCmp,a0y]; done)
  | (cases h; simp [binOp,Op.intCmp]; rfl)
theorem a4f {k k':IntKind} (h:a0Z k k'=true):k=k':=by cases k <;> cases k' <;> first | rfl | cases h
theorem b8j (k:IntKind) (m:Nat):b1d k m=min m k.bits:=by
 unfold b1d
 cases hb:Nat.ble m k.bits with
 | true=>have:=Nat.le_of_ble_eq_true hb; simp only; omega
 | false=>
   have:¬ m≤k.bits:=fun q=>by rw [Nat.ble_eq_true_of_le q] at hb; cases hb
   simp only; omega
theorem b4P {op:BinOp} {k k':IntKind} {n m:Nat} (h:a0C op k n m=some v) (t:TypeId) (w:World):(binOp op t (.int k (.ofNat n)) (.int k' (.ofNat m))).run P w=.ok v w:=by
 have hneg:¬ (Int.ofNat m<0):=by simp
 have htn:(Int.ofNat m).toNat=m:=rfl
 cases op with
 | shl=>
   cases h
   show (Op.shift .shl k (.ofNat n) k' (.ofNat m)).run P w=_
   unfold Op.shift
   rw [if_neg hneg]
   simp only [htn,Sem.run_pure,a0y,b8j]
   have:(Int.ofNat n * 2 ^ min m k.bits:Int)=Int.ofNat (Nat.mul n (Nat.pow 2 (min m k.bits))):=by
    show ((n:Int) * 2 ^ min m k.bits:Int)=((n * 2 ^ min m k.bits:Nat):Int)
    push_cast; rfl
   rw [this]
 | shr=>
   cases h
   show (Op.shift .shr k (.ofNat n) k' (.ofNat m)).run P w=_
   unfold Op.shift
   rw [if_neg hneg]
   simp only [htn,Sem.run_pure,b8j]
   have:(Int.ofNat n).fdiv (2 ^ min m k.bits)=Int.ofNat (Nat.div n (Nat.pow 2 (min m k.bits))):=by
    show ((n:Int)).fdiv (2 ^ min m k.bits)=((n / 2 ^ min m k.bits:Nat):Int)
    have:(2 ^ min m k.bits:Int)=((2 ^ min m k.bits:Nat):Int):=by push_cast; rfl
    rw [this]
    exact (Int.ofNat_fdiv n _).symm
   rw [this]
 | _=>cases h
theorem d1l {op:BinOp} {k:IntKind} {n m:Nat} (h:b1b op k n m=some v) (t:TypeId) (w:World):(binOp op t (.int k (.ofNat n)) (.int k (.ofNat m))).run P w=.ok v w:=by
 have hbv:∀ n:Nat,(BitVec.ofInt k.bits (Int.ofNat n)).toNat=n % 2 ^ k.bits:=fun n=>by
  show (BitVec.ofInt k.bits ((n:Nat):Int)).toNat=_
  rw [BitVec.ofInt_natCast,BitVec.toNat_ofNat]
 cases op with
 | quo=>
   cases m with
   | zero=>cases h
   | succ m=>
     cases h
     show (if k≠k then _ else Op.intDiv .quo k (.ofNat n) (.ofNat (m+1))).run P w=_
     rw [if_neg (by simp)]
     unfold Op.intDiv
     rw [if_neg (show ¬ Int.ofNat (m+1)=0 from fun q=>by cases q)]
     simp only [Sem.run_pure,a0y]
     rfl
 | rem=>
   cases m with
   | zero=>cases h
   | succ m=>
     cases h
     show (if k≠k then _ else Op.intDiv .rem k (.ofNat n) (.ofNat (m+1))).run P w=_
     rw [if_neg (by simp)]
     unfold Op.intDiv
     rw [if_neg (show ¬ Int.ofNat (m+1)=0 from fun q=>by cases q)]
     rfl
 | and=>
   cases h
   show (if k≠k then _ else Op.intBits .and k (.ofNat n) (.ofNat m)).run P w=_
   rw [if_neg (by simp)]
   unfold Op.intBits
   simp only [Sem.run_pure,a0y,BitVec.toNat_and,hbv]
   rfl
 | or=>
   cases h
   show (if k≠k then _ else Op.intBits .or k (.ofNat n) (.ofNat m)).run P w=_
   rw [if_neg (by simp)]
   unfold Op.intBits
   simp only [Sem.run_pure,a0y,BitVec.toNat_or,hbv]
   rfl
 | xor=>
   cases h
   show (if k≠k then _ else Op.intBits .xor k (.ofNat n) (.ofNat m)).run P w=_
   rw [if_neg (by simp)]
   unfold Op.intBits
   simp only [Sem.run_pure,a0y,BitVec.toNat_xor,hbv]
   rfl
 | _=>cases h
theorem a5n {f:Nat→Nat→Option Value} {a b:Int} (h:a0M f a b=some v):∃ n m,a=.ofNat n∧b=.ofNat m∧f n m=some v:=by
 unfold a0M at h
 cases a with
 | ofNat n=>cases b with
   | ofNat m=>exact ⟨n,m,rfl,rfl,h⟩
   | negSucc m=>cases h
 | negSucc n=>cases h
theorem a5w {op:BinOp} {k k':IntKind} {n m:Int} (h:a0l op k k' n m=some v) (t:TypeId) (w:World):(binOp op t (.int k n) (.int k' m)).run P w=.ok v w∧plain v=true:=by
 have pl:∀ {o:BinOp} {a b:Nat} {u:Value},a0C o k a b=some u→plain u=true:=fun {o a b u} q=>by cases o <;> first | (cases q; rfl) | cases q
 have pl2:∀ {o:BinOp} {a b:Nat} {u:Value},b1b o k a b=some u→plain u=true:=fun {o a b u} q=>by
  cases o with
  | quo=>cases b with
    | zero=>cases q
    | succ b=>cases q; rfl
  | rem=>cases b with
    | zero=>cases q
    | succ b=>cases q; rfl
  | and=>cases q; rfl
  | or=>cases q; rfl
  | xor=>cases q; rfl
  | _=>cases q
 have pl3:∀ {o:BinOp} {a b:Int} {u:Value},a3V o k a b=some u→plain u=true:=fun {o a b u} q=>by cases o <;> first | (cases q; rfl) | cases q
 unfold a0l at h
 cases h1:a0M (a0C op k) n m with
 | some u=>
   rw [h1] at h
   cases h
   obtain ⟨a,b,rfl,rfl,q⟩:=a5n h1
   exact ⟨b4P q t w,pl q⟩
 | none=>
   rw [h1] at h
   simp only at h
   cases hk:a0Z k k' with
   | false=>rw [hk] at h; cases h
   | true=>
     rw [hk] at h
     have:=a4f hk
     subst this
     simp only at h
     cases h2:a3V op k n m with
     | some u=>rw [h2] at h; cases h; exact ⟨d0n h2 t w,pl3 h2⟩
     | none=>
       rw [h2] at h
       simp only at h
       obtain ⟨a,b,rfl,rfl,q⟩:=a5n h
       exact ⟨d1l q t w,pl2 q⟩
theorem b9p {op:BinOp} {t:TypeId} {x y:Operand} {k k':IntKind} {n m:Int} (w:World):(eqGuard op t x y (.int k n) (.int k' m)).run P w=.ok () w:=by
 unfold eqGuard
 split <;> rfl
theorem b9G {op:BinOp} {t:TypeId} {x y:Operand} {p q:ByteArray} (w:World):(eqGuard op t x y (.string p) (.string q)).run P w=.ok () w:=by
 unfold eqGuard
 split <;> rfl
theorem c9X {op:BinOp} {x y:ByteArray} (h:b0Z op x.data.toList y.data.toList=some v) (t:TypeId) (w:World):(binOp op t (.string x) (.string y)).run P w=.ok v w:=by
 have hx:x.toList=x.data.toList:=ByteArray.toList_eq x
 have hy:y.toList=y.data.toList:=ByteArray.toList_eq y
 cases op with
 | add=>
   have h':(match Nat.blt (F4 x.data.toList+F4 y.data.toList) a2b with | true=>fList (G7 x.data.toList y.data.toList) fun l=>some (Value.string ⟨⟨l⟩⟩) | false=>none)=some v:=h
   rw [U3] at h'
   split at h'
   · rename_i hb
     cases h'
     have hb:x.size+y.size<4294967296:=by
      have:F4 x.data.toList+F4 y.data.toList<a2b:=by simpa [Nat.blt_eq] using hb
      rw [J2,J2] at this
      exact this
     have hm:¬ (((x.size+y.size:Nat):Int) > IntKind.i64.max):=by
      have:IntKind.i64.max=9223372036854775807:=rfl
      rw [this]; omega
     show (Op.stringOp .add x y).run P w=_
     unfold Op.stringOp
     simp only [if_neg hm,Sem.run_pure]
     congr 2
     rw [I5]
     have:(x ++ y).data=x.data ++ y.data:=by simp
     cases hxy:x ++ y with
     | mk d=>
       rw [hxy] at this
       have this':d=x.data ++ y.data:=this
       rw [this']
       congr 1
       apply Array.ext'
       simp
   · cases h'
 | eql=>cases h; show (Op.stringOp .eql x y).run P w=_; simp [Op.stringOp,hx,hy,S9]
 | neq=>cases h; show (Op.stringOp .neq x y).run P w=_; simp [Op.stringOp,hx,hy,S9]
 | lss=>cases h; show (Op.stringOp .lss x y).run P w=_; simp [Op.stringOp,hx,hy,a0S]
 | leq=>cases h; show (Op.stringOp .leq x y).run P w=_; simp [Op.stringOp,hx,hy,a0S,S9]
 | gtr=>cases h; show (Op.stringOp .gtr x y).run P w=_; simp [Op.stringOp,hx,hy,a0S,S9]
 | geq=>cases h; show (Op.stringOp .geq x y).run P w=_; simp [Op.stringOp,hx,hy,a0S]
 | _=>cases h
end
end Go.V
end
section
namespace Go.V
open Go.RowKit (Below)
section
variable {P:Program} {T:Tab} {B0:Nat} {w0:Base} {w:World} {K:KM} {s s':S} {a:Act} {fr:List Value} {v:Value}
theorem a1V {o:Option Value} (h:pureV o s=some (v,s')):∃ z,o=some z∧G8 3 z=true∧v=z∧s'=s:=by
 obtain ⟨z,hz,h1⟩:=C9 h
 obtain ⟨hg,h2⟩:=A8 h1
 obtain ⟨rfl,rfl⟩:=o9 h2
 exact ⟨v,hz,hg,rfl,rfl⟩
theorem a5b {d:TypeDesc} {x' x:Value} {p:Bool} (h:V3 d x=some p) (r:VR K x' x):V3 d x'=some p:=by
 cases r with
 | plain _=>exact h
 | ptr _ _=>cases d <;> first | exact h | cases h
 | slice _ _ _ _ _ _=>cases d <;> first | exact h | cases h
 | map _=>cases d <;> first | exact h | cases h
 | agg _ _=>cases d <;> cases h
 | tuple _ _=>cases d <;> cases h
 | func _ _ _ _=>cases d <;> first | exact h | cases h
 | iface _=>cases d <;> first | exact h | cases h
theorem c9I (hT:TabOk P T) {t:TypeId} {d:TI} (hd:T.types.get t=some d) {x y:Value} {p q:Bool} (h1:V3 d.und x=some p) (h2:V3 d.und y=some q) (h3:(p || q)=true) (w:World) :
 (Op.equal t x y).run P w=.ok (p && q) w:=by
 have hu:=J3 hT hd w
 unfold Op.equal Op.maxDepth Op.equalIn
 simp only [Sem.run_bind,hu,Result.andThen_ok]
 generalize d.und=u at *
 cases u with
 | pointer e=>
   cases x with
   | pointer o1=>
     cases y with
     | pointer o2=>
       cases o1 <;> cases o2 <;> cases h1 <;> cases h2 <;> first | rfl | cases h3
     | _=>cases h2
   | _=>cases h1
 | slice e=>
   cases x with
   | slice o1 _ _=>
     cases y with
     | slice o2 _ _=>
       cases o1 <;> cases o2 <;> cases h1 <;> cases h2 <;> first | rfl | cases h3
     | _=>cases h2
   | _=>cases h1
 | map e f=>
   cases x with
   | map o1=>
     cases y with
     | map o2=>
       cases o1 <;> cases o2 <;> cases h1 <;> cases h2 <;> first | rfl | cases h3
     | _=>cases h2
   | _=>cases h1
 | func e f g=>
   cases x <;> first | (cases h1; done) | (cases y <;> first | (cases h2; done) | (cases h1; cases h2; first | rfl | cases h3))
 | interface e=>
   cases x <;> first | (cases h1; done) | (cases y <;> first | (cases h2; done) | (cases h1; cases h2; first | rfl | cases h3))
 | _=>cases h1
theorem b9N {d:TypeDesc} {x y:Value} {p q:Bool} (h1:V3 d x=some p) (h2:V3 d y=some q) (t:TypeId) :
 binOp .eql t x y=(do pure (.bool (← Op.equal t x y)))∧binOp .neq t x y=(do pure (.bool (!(← Op.equal t x y)))):=by
 cases x <;> first
  | (cases d <;> cases h1; done)
  | (cases y <;> first | (cases d <;> cases h2; done) | exact ⟨rfl,rfl⟩)
theorem b0M {d:TypeDesc} {x y:Value} {p q:Bool} {op:BinOp} {X Y:Operand} (h1:V3 d x=some p) (h2:V3 d y=some q) (hc:(isConstO X || isConstO Y)=true) (t:TypeId) (w:World) :
 (eqGuard op t X Y x y).run P w=.ok () w:=by
 cases op <;> first
  | rfl
  | (cases x <;> first
      | (cases d <;> cases h1; done)
      | (cases y <;> first
          | (cases d <;> cases h2; done)
          | rfl
          | (cases X <;> cases Y <;> first | rfl | (cases hc; done))))
theorem d8k (hT:TabOk P T) {t:TypeId} {d:TI} {op:BinOp} {X Y:Operand} (hop:e1b op=true) (hd:T.types.get t=some d) {x y:Value} {p q:Bool} (h1:V3 d.und x=some p) (h2:V3 d.und y=some q) (h3:(p || q)=true)
 (hc:(isConstO X || isConstO Y)=true) (w:World):(do eqGuard op t X Y x y; binOp op t x y).run P w=.ok (.bool (c1V op (p && q))) w:=by
 obtain ⟨b1,b2⟩:=b9N h1 h2 t
 have he:=c9I hT hd h1 h2 h3 w
 simp only [Sem.run_bind,b0M h1 h2 hc t w,Result.andThen_ok]
 cases op <;> first
  | (cases hop; done)
  | (rw [b1]; simp [he,c1V]; done)
  | (rw [b2]; simp [he,c1V]; done)
theorem d5O (hT:TabOk P T) {op:BinOp} {t:TypeId} {X Y:Operand} {x y x' y':Value} (h:a2E P T op t X Y x y s=some (v,s')) (rx:VR K x' x) (ry:VR K y' y) (w:World) :
 ∃ v',(do eqGuard op t X Y x' y'; binOp op t x' y').run P w=.ok v' w∧VR K v' v∧s'=s:=by
 unfold a2E at h
 cases hn:b4h T op t X Y x y with
 | some r=>
   rw [hn] at h
   obtain ⟨rfl,rfl⟩:=o9 h
   unfold b4h at hn
   split at hn
   · rename_i hc
     simp only [Bool.and_eq_true] at hc
     split at hn
     · rename_i d hd
       split at hn
       · rename_i p hp
         split at hn
         · rename_i q hq
           split at hn
           · rename_i hpq
             cases hn
             exact ⟨_,d8k hT hc.1 hd (a5b hp rx) (a5b hq ry) hpq hc.2 w,.plain rfl,rfl⟩
           · cases hn
         · cases hn
       · cases hn
     · cases hn
   · cases hn
 | none=>
   rw [hn] at h
   obtain ⟨hg,h1⟩:=A8 h
   obtain ⟨z,hz,hna,rfl,rfl⟩:=a1V h1
   simp only [Bool.and_eq_true] at hg
   rw [rx.eq_of_noAddr 8 hg.1,ry.eq_of_noAddr 8 hg.2]
   exact ⟨v,a0p hz w,L8 _ _ hna,rfl⟩
theorem e1f (hT:TabOk P T) {op:BinOp} {t:TypeId} {x y:Operand} (h:a5C P T fr op t x y s=some (v,s')) (S:Sim B0 w0 K s.h w) (hf:VRL K a.tmps.toList fr) (hg:GK T K) :
 F9 P B0 w0 K s' (do pure (Next.value (← (do eqGuard op t x y (a.eval x) (a.eval y); binOp op t (a.eval x) (a.eval y))))) w v:=by
 obtain ⟨vx,e1,h1⟩:=K3 h
 obtain ⟨vy,e2,h2⟩:=K3 h1
 have rx:=F5 hf hg e1
 have ry:=F5 hf hg e2
 have hbin:a2E P T op t x y vx vy s=some (v,s')→F9 P B0 w0 K s' (do pure (Next.value (← (do eqGuard op t x y (a.eval x) (a.eval y); binOp op t (a.eval x) (a.eval y))))) w v:=by
  intro hb
  obtain ⟨v',q1,q2,rfl⟩:=d5O hT hb rx ry w
  exact F9.quiet S rfl q1 q2
 cases vx with
 | int k n=>
   cases vy with
   | int k' m=>
     have h3:(match a0l op k k' n m with | some v=>M.pure v | none=>a2E P T op t x y (.int k n) (.int k' m)) s=some (v,s'):=h2
     cases hi:a0l op k k' n m with
     | none=>rw [hi] at h3; exact hbin h3
     | some z=>
       rw [hi] at h3
       obtain ⟨rfl,rfl⟩:=o9 h3
       have ex:=rx.eq_of_plain rfl
       have ey:=ry.eq_of_plain rfl
       refine F9.quiet S rfl (v':=v) ?_ (.plain (a5w (P:=P) hi t w).2)
       rw [ex,ey]
       simp only [Sem.run_bind,b9p,Result.andThen_ok,(a5w hi t w).1]
   | _=>exact absurd h2 (by intro q; cases q)
 | string p=>
   cases vy with
   | string q=>
     have h3:M.lift (b0Z op p.data.toList q.data.toList) s=some (v,s'):=h2
     obtain ⟨h4,rfl⟩:=a1H h3
     have ex:=rx.eq_of_plain rfl
     have ey:=ry.eq_of_plain rfl
     refine F9.quiet S rfl (v':=v) ?_ ?_
     · rw [ex,ey]
       simp only [Sem.run_bind,b9G,Result.andThen_ok,c9X h4]
     · refine .plain ?_
       cases op <;> first
        | (cases h4; done)
        | (have h5:(match Nat.blt (F4 p.data.toList+F4 q.data.toList) a2b with | true=>fList (G7 p.data.toList q.data.toList) fun l=>some (Value.string ⟨⟨l⟩⟩) | false=>none)=some v:=h4
           rw [U3] at h5
           split at h5 <;> cases h5
           rfl)
        | (cases h4; rfl)
   | _=>exact absurd h2 (by intro q; cases q)
 | _=>exact hbin h2
theorem e3P {op:UnOp} {x:Operand} (h:b2g P T fr op x s=some (v,s')) (S:Sim B0 w0 K s.h w) (hf:VRL K a.tmps.toList fr) (hg:GK T K) :
 F9 P B0 w0 K s' (do pure (Next.value (← Op.unary op (a.eval x)))) w v:=by
 obtain ⟨vx,e1,h1⟩:=K3 h
 obtain ⟨hgd,h2⟩:=A8 h1
 obtain ⟨z,hz,hna,rfl,rfl⟩:=a1V h2
 have ex:=(F5 hf hg e1).eq_of_plain hgd
 rw [ex]
 exact F9.quiet S rfl (a0p hz w) (L8 _ _ hna)
theorem d3X (hT:TabOk P T) {t:TypeId} {x y:Operand} (h:a2g T fr t x y s=some (v,s')) (S:Sim B0 w0 K s.h w) (hf:VRL K a.tmps.toList fr) (hg:GK T K) :
 F9 P B0 w0 K s' (do pure (Next.value (← Instr.index t (a.eval x) (a.eval y)))) w v:=by
 obtain ⟨vx,e1,h1⟩:=K3 h
 obtain ⟨vy,e2,h2⟩:=K3 h1
 obtain ⟨j,hj,h3⟩:=C9 h2
 obtain ⟨d,hd,h4⟩:=I8 h3
 obtain ⟨k,rfl⟩:=a0G hj
 have ey:=(F5 hf hg e2).eq_of_plain rfl
 have rx:=F5 hf hg e1
 generalize hu:d.und=u at h4
 cases u with
 | string=>
   cases vx with
   | string b=>
     obtain ⟨c,hc,h5⟩:=C9 h4
     obtain ⟨rfl,rfl⟩:=o9 h5
     have ex:=rx.eq_of_plain rfl
     rw [O7] at hc
     have hc':b[j]?=some c:=by
      have hlt:j<b.data.toList.length:=(List.getElem?_eq_some_iff.1 hc).1
      have hlt':j<b.size:=hlt
      rw [getElem?_pos b j hlt']
      rw [List.getElem?_eq_getElem hlt] at hc
      exact hc
     refine F9.quiet S rfl (v':=a0x c) ?_ (.plain rfl)
     rw [ex,ey]
     simp only [Instr.index,Sem.run_bind,asIntOf,Sem.run_pure,Result.andThen_ok,J3 hT hd,hu]
     simp [hc',a0x]
   | _=>exact absurd h4 (by intro q; cases q)
 | array len elem=>
   cases vx with
   | agg cs=>
     obtain ⟨e,he,h5⟩:=I8 h4
     obtain ⟨hlt,h6⟩:=A8 h5
     obtain ⟨cs',ex,r⟩:=d2O rx
     obtain ⟨u',q1,q2,rfl⟩:=b7G hT h6 r w
     have hlt:j<len:=by simpa [Nat.blt_eq] using hlt
     refine F9.quiet S rfl ?_ q2
     rw [ex,ey]
     simp only [Instr.index,Sem.run_bind,asIntOf,Sem.run_pure,Result.andThen_ok,J3 hT hd,hu]
     simp [hlt,L9 hT he] at q1 ⊢
     exact q1
   | _=>exact absurd h4 (by intro q; cases q)
 | _=>exact absurd h4 (by intro q; cases q)
end
end Go.V
end
