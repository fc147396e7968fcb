import Derived.Laws.BytesString
import Derived.Orders
import Derived.LoopN
import Derived.Test.YtmomonnlmbljoaaGreatDoorQad
section
namespace Go.V
open Go.RowKit (Below)
theorem b4M (k v:Value):∀ (es:List (Value × Value)),(∀ e ∈ es,a4R k e.1=some false) → b1h k v es=es ++ [(k,v)]
 | [],_=>rfl
 | e :: es,h=>by
   have h1:=h e (List.mem_cons_self ..)
   show (match a4R k e.1 with | some true=>(k,v) :: es | _=>e :: b1h k v es)=_
   rw [h1,b4M k v es (fun x hx=>h x (List.mem_cons_of_mem _ hx))]
   rfl
theorem b2U (k v:Value):∀ (es:List (Value × Value)) (j:Nat),(∀ (m:Nat) e,m < j → es[m]?=some e → a4R k e.1=some false) → (∃ e,es[j]?=some e ∧ a4R k e.1=some true) → b1h k v es=es.set j (k,v)
 | [],j,_,⟨e,h,_⟩=>by simp at h
 | e :: es, 0,_,⟨e',h,h2⟩=>by
   simp at h; subst h
   show (match a4R k e.1 with | some true=>(k,v) :: es | _=>e :: b1h k v es)=_
   rw [h2]; rfl
 | e :: es,j + 1,h,⟨e',h1,h2⟩=>by
   have h0:=h 0 e (by omega) rfl
   show (match a4R k e.1 with | some true=>(k,v) :: es | _=>e :: b1h k v es)=_
   rw [h0]
   show e :: b1h k v es=_
   rw [b2U k v es j (fun m x hm hx=>h (m + 1) x (by omega) (by simpa using hx)) ⟨e',by simpa using h1,h2⟩]
   rfl
theorem b6m {k x:Value} (h:a4R k x=some true):k=x ∧ ∀ n,Instr.sameBits n x k=true:=by
 cases k with
 | int k1 n1=>
   cases x with
   | int k2 n2=>
     have h':(match decide (k1=k2) with | true=>some (decide (n1=n2)) | false=>none)=some true:=h
     by_cases hk:k1=k2
     · rw [decide_eq_true hk] at h'
       have:n1=n2:=by simpa using h'
       subst hk this
       exact ⟨rfl,fun n=>by cases n <;> simp [Instr.sameBits]⟩
     · rw [decide_eq_false hk] at h'; cases h'
   | _=>cases h
 | string s1=>
   cases x with
   | string s2=>
     have h':some (beqBytes s1.data.toList s2.data.toList)=some true:=h
     rw [a5v] at h'
     have:s1=s2:=by
      have:s1.data.toList=s2.data.toList:=by simpa using h'
      cases s1; cases s2; congr 1; exact Array.ext' this
     subst this
     refine ⟨rfl,fun n=>?_⟩
     have hb:(s1 == s1)=true:=by rw [b4z,a5v]; simp
     cases n <;> simp [Instr.sameBits,hb]
   | _=>cases h
 | bool b1=>
   cases x with
   | bool b2=>
     have h':some (b1 == b2)=some true:=h
     have:b1=b2:=by simpa using h'
     subst this
     exact ⟨rfl,fun n=>by cases n <;> simp [Instr.sameBits]⟩
   | _=>cases h
 | _=>cases h
section
variable {P:Program} {T:Tab} {B0:Nat} {w0:Base} {w:World} {K:KM} {s s':S} {a:Act} {fr:List Value} {v:Value}
theorem b0k {r:Nat} {o o':Obj} (h:w.heap[r]?=some o) (hn:∀ c e f,o ≠ .cells c e f):(setObj r o').run P w=.ok () { w with heap:=w.heap.setIfInBounds r o' }:=by
 cases o with
 | cells c e f=>exact absurd rfl (hn c e f)
 | _=>simp only [setObj,Sem.run,h]
theorem c0r (hT:TabOk P T) {t:TypeId} {m k x m' k' x':Value} {un:Unit} (h:b0v T t m k x s=some (un,s')) (S:Sim B0 w0 K s.h w) (rm:VR K m' m) (rk:VR K k' k) (rx:VR K x' x) :
 ∃ w',(Instr.mapUpdate t m' k' x').run P w=.ok () w' ∧ Sim B0 w0 K s'.h w' ∧ s'.c=s.c:=by
 obtain ⟨d,hd,h1⟩:=a2c h
 generalize hu:d.und=u at h1
 cases u with
 | map key elem=>
   cases m with
   | map o=>
     obtain ⟨r,rfl,h2⟩:=U4 h1
     obtain ⟨kd,hk,h3⟩:=a2c h2
     obtain ⟨hfit,h4⟩:=R4 h3
     obtain ⟨es,s1,h5,h6⟩:=M8 h4
     obtain ⟨fo,ho,h7⟩:=U4 h6
     rw [a3m] at h7
     have ek:k'=k:=rk.eq_of_plain (b0K hfit)
     subst ek
     obtain ⟨c1,c2,c3⟩:=a9B (x:=.map (some r)) h5 S rm
     rcases c3 with ⟨q1,_⟩ | ⟨b,l,es',clock,q0,q2,q3,q4,q5,q6,q7⟩
     · exfalso
       subst q1
       generalize hv:Value.map (some r)=z at rm
       cases rm with
       | plain hp=>cases hv
       | _=>cases hv
     · cases q0
       subst q2
       obtain ⟨w1,w2,w3⟩:=b2R h7
       obtain ⟨r',n1,n2⟩:=b1W (K:=K) hfit es es'.toList 0 fo ho q7
       have hfk:(Instr.findKey key k' es'.toList).run P w=.ok r' w:=by
        unfold Instr.findKey
        simp only [Sem.run_bind,a2x hT hk,Result.andThen_ok,n1,Sem.run_pure]
       have hck:=b1u (P:=P) hT hk hfit false 9999 w
       have hget:∀ j,s'.h.get j=if j=r then some (.map (b1h k' x es)) else s.h.get j:=by
        intro j; rw [w3 j,c1]
       rcases n2 with ⟨_,rfl,hall⟩ | ⟨j,z,z',_,rfl,hz,hj,hbefore,e,he,hsame⟩
       · refine ⟨{ w with heap:=w.heap.setIfInBounds l.blk (.map (es'.push { key:=k',val:=x',born:=clock }) (clock + 1)) }, ?_, ?_,by rw [w2,c2]⟩
         · unfold Instr.mapUpdate
           simp only [Sem.run_bind,a2x hT hd,hu,Result.andThen_ok,a6S q6 (by intro c e f q; cases q),hck,hfk,b0k q6 (by intro c e f q; cases q)]
         · refine b0j S q3 q4 q5 (by intro _ _ _ q; cases q) (by intro _ _ _ q; cases q) hget rfl (fun es2 q=>?_) (fun x pos q=>by cases q)
           cases q
           refine ⟨_,_,rfl, ?_⟩
           rw [b4M k' x es hall]
           refine ⟨by simp [q7.len],fun i e' e p1 p2=>?_⟩
           have hlen:es'.toList.length=es.length:=q7.len
           simp only [Array.toList_push] at p1
           by_cases hi:i < es.length
           · rw [List.getElem?_append_left (by rw [hlen]; exact hi)] at p1
             rw [List.getElem?_append_left hi] at p2
             exact q7.key i e' e p1 p2
           · rw [List.getElem?_append_right (by rw [hlen]; omega),hlen] at p1
             rw [List.getElem?_append_right (by omega)] at p2
             cases hi2:i - es.length with
             | zero=>rw [hi2] at p1 p2; cases p1; cases p2; exact ⟨rfl,rx⟩
             | succ n=>rw [hi2] at p1; simp at p1
       · obtain ⟨hkeq,hbits⟩:=b6m hsame
         have hlen:es'.toList.length=es.length:=q7.len
         have hj':j < es'.size:=by rw [← Array.length_toList,hlen]; exact hj
         obtain ⟨e0,he0⟩:∃ e0,es'.toList[j]?=some e0:=⟨es'.toList[j]'(by simpa using hj'),List.getElem?_eq_getElem (by simpa using hj')⟩
         have hek:=(q7.key j e0 e he0 he).1
         refine ⟨{ w with heap:=w.heap.setIfInBounds l.blk (.map (es'.modify j fun e=>{ e with key:=k',val:=x' }) clock) }, ?_, ?_,by rw [w2,c2]⟩
         · unfold Instr.mapUpdate
           rw [Nat.zero_add] at hfk
           have hstay:(Instr.keyThatStays (((es'[j]?).map (·.key)).getD k') k').run P w=.ok k' w:=by
            have:es'[j]?=some e0:=by simpa using he0
            rw [this]
            show (Instr.keyThatStays e0.key k').run P w=_
            unfold Instr.keyThatStays
            rw [hek,if_pos (hbits 10000)]
            rfl
           simp only [Sem.run_bind,a2x hT hd,hu,Result.andThen_ok,a6S q6 (by intro c e f q; cases q),hck,hfk,hstay,b0k q6 (by intro c e f q; cases q)]
         · refine b0j S q3 q4 q5 (by intro _ _ _ q; cases q) (by intro _ _ _ q; cases q) hget rfl (fun es2 q=>?_) (fun x pos q=>by cases q)
           cases q
           refine ⟨_,_,rfl, ?_⟩
           rw [b2U k' x es j hbefore ⟨e,he,hsame⟩]
           refine ⟨by simp [hlen],fun i e' e2 p1 p2=>?_⟩
           have p1':(es'.modify j fun e=>{ e with key:=k',val:=x' })[i]?=some e':=by rw [← Array.getElem?_toList]; exact p1
           rw [Array.getElem?_modify] at p1'
           rw [List.getElem?_set] at p2
           by_cases hij:j=i
           · subst hij
             rw [if_pos rfl] at p1' p2
             rw [if_pos hj] at p2
             cases p2
             have:es'[j]?=some e0:=by simpa using he0
             rw [this] at p1'
             cases p1'
             exact ⟨rfl,rx⟩
           · rw [if_neg hij] at p1' p2
             exact q7.key i e' e2 (by simpa using p1') p2
   | _=>exact absurd h1 (by intro q; cases q)
 | _=>exact absurd h1 (by intro q; cases q)
theorem b4Q (hT:TabOk P T) {t:TypeId} {m k x:Operand} (h:a6j T fr t m k x s=some (v,s')) (S:Sim B0 w0 K s.h w) (hf:VRL K a.tmps.toList fr) (hg:GK T K) :
 a0R P B0 w0 K s' (do Instr.mapUpdate t (a.eval m) (a.eval k) (a.eval x); pure Next.skip) w v:=by
 obtain ⟨vm,e1,h1⟩:=a2J h
 obtain ⟨vk,e2,h2⟩:=a2J h1
 obtain ⟨vx,e3,h3⟩:=a2J h2
 obtain ⟨un,s1,h4,h5⟩:=M8 h3
 obtain ⟨rfl,rfl⟩:=J3 h5
 obtain ⟨w',r1,r2,r3⟩:=c0r (P:=P) hT h4 S (a0C hf hg e1) (a0C hf hg e2) (a0C hf hg e3)
 exact ⟨.skip,w',K,by simp [r1],⟨KM.le_refl K,fun _ _ _=>rfl,r2⟩,Or.inr ⟨rfl,rfl⟩⟩
theorem b3R {o:VObj} {b:Nat} {s1:S} {ob:Obj} (h:new o s=some (b,s1)) (S:Sim B0 w0 K s.h w) (F:a2S K s s1) (hn:∀ cs cur ro,o ≠ .cells cs cur ro)
 (hmap:∀ es,o=.map es → ∃ es' clock,ob=.map es' clock ∧ MR K es'.toList es) (hiter:∀ x pos,o=.siter x pos → ob=.stringIter x pos) :
 ∃ K',Step B0 w0 K s1 (w.alloc ob) K' ∧ K' s.c 0=some ⟨w.heap.size, 0, 0, 0,true⟩ ∧ b=s.c:=by
 rw [b1w] at h
 cases h
 have hK:∀ g,K s.c g=none:=S.none (F s.c (Nat.le_refl _) (by show s.c < s.c + 1; omega))
 have hblk:(w.alloc ob).heap[w.heap.size]?=some ob:=by show (w.heap.push _)[w.heap.size]?=_; simp
 refine ⟨K.put s.c 0 ⟨w.heap.size, 0, 0, 0,true⟩,⟨KM.le_put K _ (hK 0),fun i g hi=>KM.put_other K _ (fun q=>by have hi:s.c + 1 ≤ i:=hi; omega), ?_⟩,KM.put_same _ _ _ _,rfl⟩
 refine b4f (o:=o) (a6P S (Grew.alloc _ _)) hK (fun j=>Trie.get_put _ _ _ _ (Nat.lt_succ_self _) j) (by show w.heap.size < (w.heap.push _).size; simp) S.base rfl
  (fun b g l q=>by have:=S.dom b g l q; show l.blk ≠ w.heap.size; omega) (fun cs cur ro q=>absurd q (hn _ _ _)) (fun es q=>?_) (fun x pos q=>⟨rfl,rfl, ?_⟩)
 · obtain ⟨es',clock,rfl,r⟩:=hmap es q
   exact ⟨es',clock,hblk,r⟩
 · rw [← hiter x pos q]; exact hblk
theorem d0M (hT:TabOk P T) {t:TypeId} {r:Option Operand} (h:b2Y T fr t r s=some (v,s')) (S:Sim B0 w0 K s.h w) (F:a2S K s s') (hf:VRL K a.tmps.toList fr) (hg:GK T K) :
 a0R P B0 w0 K s' (do pure (Next.value (← Instr.makeMap t (r.map a.eval)))) w v:=by
 have hmr:∀ es,VObj.map []=.map es → ∃ es' clock,Obj.map #[] 0=.map es' clock ∧ MR K es'.toList es:=by
  intro es q; cases q; exact ⟨#[], 0,rfl,⟨rfl,fun i e' e q=>by simp at q⟩⟩
 cases r with
 | none=>
   have h':M.bind (new (.map [])) (fun b=>M.pure (.map (some b))) s=some (v,s'):=h
   obtain ⟨b,s1,h1,h2⟩:=M8 h'
   obtain ⟨rfl,rfl⟩:=J3 h2
   obtain ⟨K',k1,k2,rfl⟩:=b3R (ob:=.map #[] 0) h1 S F (by intro _ _ _ q; cases q) hmr (by intro _ _ q; cases q)
   refine a0R.step (v':=.map (some w.heap.size)) (w':=w.alloc (.map #[] 0)) ?_ k1 (VR.map k2)
   simp [Instr.makeMap]
 | some x=>
   have h':ev T fr x (fun v=>ti T t fun d=>M.guard (c2E d.und && c2f v) <| M.bind (new (.map [])) fun b=>M.pure (.map (some b))) s=some (v,s'):=h
   obtain ⟨vx,e1,h1⟩:=a2J h'
   obtain ⟨d,hd,h2⟩:=a2c h1
   obtain ⟨hgd,h3⟩:=R4 h2
   obtain ⟨b,s1,h4,h5⟩:=M8 h3
   obtain ⟨rfl,rfl⟩:=J3 h5
   simp only [Bool.and_eq_true] at hgd
   obtain ⟨K',k1,k2,rfl⟩:=b3R (ob:=.map #[] 0) h4 S F (by intro _ _ _ q; cases q) hmr (by intro _ _ q; cases q)
   refine a0R.step (v':=.map (some w.heap.size)) (w':=w.alloc (.map #[] 0)) ?_ k1 (VR.map k2)
   cases vx with
   | int kk n=>
     have ex:a.eval x=.int kk n:=(a0C hf hg e1).eq_of_plain rfl
     cases hu:d.und with
     | map k1 k2=>simp [Instr.makeMap,ex,a2x hT hd,hu,asInt,asIntOf]
     | _=>rw [hu] at hgd; cases hgd.1
   | _=>cases hgd.2
theorem c3u (hT:TabOk P T) {t:TypeId} {x:Operand} (h:a9T T fr t x s=some (v,s')) (S:Sim B0 w0 K s.h w) (F:a2S K s s') (hf:VRL K a.tmps.toList fr) (hg:GK T K) :
 a0R P B0 w0 K s' (do pure (Next.value (← Instr.range t (a.eval x)))) w v:=by
 obtain ⟨vx,e1,h1⟩:=a2J h
 obtain ⟨d,hd,h2⟩:=a2c h1
 generalize hu:d.und=u at h2
 cases u with
 | string=>
   cases vx with
   | string b=>
     obtain ⟨n,s1,h3,h4⟩:=M8 h2
     obtain ⟨rfl,rfl⟩:=J3 h4
     have ex:a.eval x=.string b:=(a0C hf hg e1).eq_of_plain rfl
     obtain ⟨K',k1,k2,rfl⟩:=b3R (ob:=.stringIter b 0) h3 S F (by intro _ _ _ q; cases q) (by intro _ q; cases q) (by intro _ _ q; cases q; rfl)
     refine a0R.step (v':=.pointer (some ⟨w.heap.size, 0,none⟩)) (w':=w.alloc (.stringIter b 0)) ?_ k1 (VR.ptr (off:=0) k2 (Nat.zero_le _))
     simp [Instr.range,a2x hT hd,hu,ex]
   | _=>exact absurd h2 (by intro q; cases q)
 | _=>exact absurd h2 (by intro q; cases q)
theorem c6h {x:Operand} {str:Bool} {ty:TypeId} (h:b0Q T fr x str s=some (v,s')) (S:Sim B0 w0 K s.h w) (hf:VRL K a.tmps.toList fr) (hg:GK T K) :
 a0R P B0 w0 K s' (do pure (Next.value (← Instr.next (a.eval x) str ty))) w v:=by
 obtain ⟨rfl,h1⟩:=R4 h
 obtain ⟨vx,e1,h2⟩:=a2J h1
 obtain ⟨ad,rfl,h3⟩:=a6M h2
 obtain ⟨h0,h4⟩:=R4 h3
 obtain ⟨o,s1,h5,h6⟩:=M8 h4
 obtain ⟨q1,q2,q3,q4⟩:=b1e h5
 simp only [Bool.and_eq_true] at h0
 have h00:=Nat.eq_of_beq_eq_true h0.1
 cases o with
 | siter b pos=>
   obtain ⟨l,r1,r2,r3,r4,r5⟩:=S.siter _ b pos q2
   obtain ⟨ad',e2,r⟩:=a8r (a0C hf hg e1)
   obtain ⟨g,l',f1,f2,f3,rfl⟩:=a8f r
   have hg0:g=0:=by
    have:=h0.2; rw [f1] at this; exact Nat.eq_of_beq_eq_true this
   subst hg0
   rw [r1] at f2; cases f2
   have ead:(⟨l.blk,l.at_ + (ad.off - l.lo),none⟩:Addr)=⟨l.blk, 0,none⟩:=by rw [r3,r4,h00]
   rw [ead] at e2
   have h6':b3F ad.block b pos s1=some (v,s'):=h6
   unfold b3F at h6'
   have hsz:M4 b.data.toList=b.size:=by rw [a0m]; rfl
   rw [hsz] at h6'
   cases hlt:Nat.blt pos b.size with
   | true=>
     rw [hlt] at h6'
     simp only [a5B] at h6'
     obtain ⟨un,s2,h7,h8⟩:=M8 h6'
     obtain ⟨rfl,rfl⟩:=J3 h8
     obtain ⟨_,w2,w3⟩:=b2R h7
     have hlt':pos < b.size:=by simpa [Nat.blt_eq] using hlt
     refine a0R.step (v':=.tuple #[.bool true,goInt pos,.int .i32 (Utf8.decode b pos).1]) (w':={ w with heap:=w.heap.setIfInBounds l.blk (.stringIter b (pos + (Utf8.decode b pos).2)) }) (K':=K) ?_ ⟨KM.le_refl K,fun _ _ _=>rfl, ?_⟩ (a3h 3 _ rfl)
     · rw [e2]
       unfold Instr.next
       simp only [Sem.run_bind,a6S r5 (by intro c e f q; cases q),Result.andThen_ok,hlt',if_true,b0k r5 (by intro c e f q; cases q),Sem.run_pure]
     · refine b0j (o:=.siter b pos) (o':=.siter b (pos + (Utf8.decode b pos).2)) S r1 r2 q2 (by intro _ _ _ q; cases q) (by intro _ _ _ q; cases q) (fun j=>by rw [w3 j,q4]) rfl (fun es q=>by cases q) (fun x p q=>by cases q; exact ⟨r3,r4,rfl⟩)
   | false=>
     rw [hlt] at h6'
     obtain ⟨rfl,rfl⟩:=J3 h6'
     have hlt':¬ pos < b.size:=by
      intro q; have:Nat.blt pos b.size=true:=by simpa [Nat.blt_eq] using q
      rw [this] at hlt; cases hlt
     refine a0R.quiet S q4 (v':=.tuple #[.bool false]) ?_ (a3h 3 _ rfl)
     rw [e2]
     unfold Instr.next
     simp only [Sem.run_bind,a6S r5 (by intro c e f q; cases q),Result.andThen_ok,hlt',if_false,Sem.run_pure]
 | _=>exact absurd h6 (by intro q; cases q)
end
end Go.V
end
section
namespace Go.V
open Go.RowKit (Below)
theorem b0w (k:IntKind) (M H:Int) (hM:(2 ^ k.bits:Int)=M) (hH:(2 ^ (k.bits - 1):Int)=H) (hs:k.signed=true) (hMH:M=2 * H) (m:Nat) (h:(m:Int) < H) :
 k.wrap (-((m:Int) + 1))=-((m:Int) + 1):=by
 unfold IntKind.wrap
 rw [hM,hH,hs]
 have e:(-((m:Int) + 1)) % M=-((m:Int) + 1) + M:=by
  rw [← Int.add_emod_right]
  exact Int.emod_eq_of_lt (by omega) (by omega)
 rw [e]
 simp only [Bool.true_and,decide_eq_true_eq]
 rw [if_pos (by omega)]
 omega
theorem a5H (k:IntKind) (n:Int):a1d k n=k.wrap n:=by
 cases n with
 | ofNat m=>
   show (match Nat.blt m (I7 k) with | true=>Int.ofNat m | false=>k.wrap (.ofNat m))=_
   cases h:Nat.blt m (I7 k) with
   | false=>rfl
   | true=>
     have hm:m < I7 k:=by simpa [Nat.blt_eq] using h
     show Int.ofNat m=k.wrap (Int.ofNat m)
     simp only [Int.ofNat_eq_natCast]
     cases k <;> simp only [I7] at hm <;> simp only [IntKind.wrap,IntKind.bits,IntKind.signed,Int.reducePow,Nat.reduceSub,Bool.true_and,Bool.false_and,decide_eq_true_eq,ge_iff_le,Bool.false_eq_true,if_false] <;> (try split) <;> omega
 | negSucc m=>
   show (match k.signed && Nat.blt m (I7 k) with | true=>Int.negSucc m | false=>k.wrap (.negSucc m))=_
   cases h:k.signed && Nat.blt m (I7 k) with
   | false=>rfl
   | true=>
     simp only [Bool.and_eq_true] at h
     have hm:m < I7 k:=by simpa [Nat.blt_eq] using h.2
     have hs:=h.1
     show Int.negSucc m=k.wrap (Int.negSucc m)
     rw [Int.negSucc_eq]
     symm
     cases k with
     | i8=>exact b0w .i8 256 128 rfl rfl rfl rfl m (by have hm:m < 128:=hm; omega)
     | i16=>exact b0w .i16 65536 32768 rfl rfl rfl rfl m (by have hm:m < 32768:=hm; omega)
     | i32=>exact b0w .i32 4294967296 2147483648 rfl rfl rfl rfl m (by have hm:m < 2147483648:=hm; omega)
     | i64=>exact b0w .i64 18446744073709551616 9223372036854775808 rfl rfl rfl rfl m (by have hm:m < 9223372036854775808:=hm; omega)
     | _=>cases hs
theorem a7H:∀ (x y:List UInt8),a7v x y=Op.bytesLess x y:=by
 intro x
 induction x with
 | nil=>intro y; cases y <;> rfl
 | cons a x ih=>
   intro y
   cases y with
   | nil=>rfl
   | cons b y=>
     show (match Nat.blt a.toNat b.toNat with | true=>true | false=>match Nat.beq a.toNat b.toNat with | true=>a7v x y | false=>false)=(decide (a < b) || (a == b && Op.bytesLess x y))
     rw [ih]
     by_cases h:a < b
     · have:Nat.blt a.toNat b.toNat=true:=by rw [Nat.blt_eq]; exact UInt8.lt_iff_toNat_lt.1 h
       rw [this]; simp [h]
     · have h1:Nat.blt a.toNat b.toNat=false:=by
        cases q:Nat.blt a.toNat b.toNat with
        | false=>rfl
        | true=>rw [Nat.blt_eq] at q; exact absurd (UInt8.lt_iff_toNat_lt.2 q) h
       rw [h1]
       by_cases h2:a=b
       · subst h2; simp
       · have h3:Nat.beq a.toNat b.toNat=false:=by
          cases q:Nat.beq a.toNat b.toNat with
          | false=>rfl
          | true=>exact absurd (UInt8.toNat_inj.1 (Nat.eq_of_beq_eq_true q)) h2
         rw [h3]; simp [h,h2]
section
variable {P:Program} {T:Tab} {B0:Nat} {w0:Base} {w:World} {K:KM} {s s':S} {a:Act} {fr:List Value} {v:Value}
theorem c1X {op:BinOp} {k:IntKind} {n m:Int} (h:b1R op k n m=some v) (t:TypeId) (w:World):(binOp op t (.int k n) (.int k m)).run P w=.ok v w:=by
 cases op <;> first
  | (cases h; done)
  | (cases h; simp [binOp,Op.intArith,Op.intCmp,a5H]; done)
  | (cases h; simp [binOp,Op.intCmp]; rfl)
theorem a6t {k k':IntKind} (h:a2Y k k'=true):k=k':=by cases k <;> cases k' <;> first | rfl | cases h
theorem b7V (k:IntKind) (m:Nat):a9i k m=min m k.bits:=by
 unfold a9i
 cases hb:Nat.ble m k.bits with
 | true=>have:=Nat.le_of_ble_eq_true hb; simp only; omega
 | false=>
   have:¬ m ≤ k.bits:=fun q=>by rw [Nat.ble_eq_true_of_le q] at hb; cases hb
   simp only; omega
theorem b7q {op:BinOp} {k k':IntKind} {n m:Nat} (h:a6c op k n m=some v) (t:TypeId) (w:World):(binOp op t (.int k (.ofNat n)) (.int k' (.ofNat m))).run P w=.ok v w:=by
 have hneg:¬ (Int.ofNat m < 0):=by simp
 have htn:(Int.ofNat m).toNat=m:=rfl
 cases op with
 | shl=>
   cases h
   show (Op.shift .shl k (.ofNat n) k' (.ofNat m)).run P w=_
   unfold Op.shift
   rw [if_neg hneg]
   simp only [htn,Sem.run_pure,a5H,b7V]
   have:(Int.ofNat n * 2 ^ min m k.bits:Int)=Int.ofNat (Nat.mul n (Nat.pow 2 (min m k.bits))):=by
    show ((n:Int) * 2 ^ min m k.bits:Int)=((n * 2 ^ min m k.bits:Nat):Int)
    push_cast; rfl
   rw [this]
 | shr=>
   cases h
   show (Op.shift .shr k (.ofNat n) k' (.ofNat m)).run P w=_
   unfold Op.shift
   rw [if_neg hneg]
   simp only [htn,Sem.run_pure,b7V]
   have:(Int.ofNat n).fdiv (2 ^ min m k.bits)=Int.ofNat (Nat.div n (Nat.pow 2 (min m k.bits))):=by
    show ((n:Int)).fdiv (2 ^ min m k.bits)=((n / 2 ^ min m k.bits:Nat):Int)
    have:(2 ^ min m k.bits:Int)=((2 ^ min m k.bits:Nat):Int):=by push_cast; rfl
    rw [this]
    exact (Int.ofNat_fdiv n _).symm
   rw [this]
 | _=>cases h
theorem c2J {op:BinOp} {k:IntKind} {n m:Nat} (h:b5A op k n m=some v) (t:TypeId) (w:World):(binOp op t (.int k (.ofNat n)) (.int k (.ofNat m))).run P w=.ok v w:=by
 have hbv:∀ n:Nat,(BitVec.ofInt k.bits (Int.ofNat n)).toNat=n % 2 ^ k.bits:=fun n=>by
  show (BitVec.ofInt k.bits ((n:Nat):Int)).toNat=_
  rw [BitVec.ofInt_natCast,BitVec.toNat_ofNat]
 cases op with
 | quo=>
   cases m with
   | zero=>cases h
   | succ m=>
     cases h
     show (if k ≠ k then _ else Op.intDiv .quo k (.ofNat n) (.ofNat (m + 1))).run P w=_
     rw [if_neg (by simp)]
     unfold Op.intDiv
     rw [if_neg (show ¬ Int.ofNat (m + 1)=0 from fun q=>by cases q)]
     simp only [Sem.run_pure,a5H]
     rfl
 | rem=>
   cases m with
   | zero=>cases h
   | succ m=>
     cases h
     show (if k ≠ k then _ else Op.intDiv .rem k (.ofNat n) (.ofNat (m + 1))).run P w=_
     rw [if_neg (by simp)]
     unfold Op.intDiv
     rw [if_neg (show ¬ Int.ofNat (m + 1)=0 from fun q=>by cases q)]
     rfl
 | and=>
   cases h
   show (if k ≠ k then _ else Op.intBits .and k (.ofNat n) (.ofNat m)).run P w=_
   rw [if_neg (by simp)]
   unfold Op.intBits
   simp only [Sem.run_pure,a5H,BitVec.toNat_and,hbv]
   rfl
 | or=>
   cases h
   show (if k ≠ k then _ else Op.intBits .or k (.ofNat n) (.ofNat m)).run P w=_
   rw [if_neg (by simp)]
   unfold Op.intBits
   simp only [Sem.run_pure,a5H,BitVec.toNat_or,hbv]
   rfl
 | xor=>
   cases h
   show (if k ≠ k then _ else Op.intBits .xor k (.ofNat n) (.ofNat m)).run P w=_
   rw [if_neg (by simp)]
   unfold Op.intBits
   simp only [Sem.run_pure,a5H,BitVec.toNat_xor,hbv]
   rfl
 | _=>cases h
theorem b2T {f:Nat → Nat → Option Value} {a b:Int} (h:a6J f a b=some v):∃ n m,a=.ofNat n ∧ b=.ofNat m ∧ f n m=some v:=by
 unfold a6J at h
 cases a with
 | ofNat n=>cases b with
   | ofNat m=>exact ⟨n,m,rfl,rfl,h⟩
   | negSucc m=>cases h
 | negSucc n=>cases h
theorem b2J {op:BinOp} {k k':IntKind} {n m:Int} (h:a5n op k k' n m=some v) (t:TypeId) (w:World):(binOp op t (.int k n) (.int k' m)).run P w=.ok v w ∧ plain v=true:=by
 have pl:∀ {o:BinOp} {a b:Nat} {u:Value},a6c o k a b=some u → plain u=true:=fun {o a b u} q=>by cases o <;> first | (cases q; rfl) | cases q
 have pl2:∀ {o:BinOp} {a b:Nat} {u:Value},b5A o k a b=some u → plain u=true:=fun {o a b u} q=>by
  cases o with
  | quo=>cases b with
    | zero=>cases q
    | succ b=>cases q; rfl
  | rem=>cases b with
    | zero=>cases q
    | succ b=>cases q; rfl
  | and=>cases q; rfl
  | or=>cases q; rfl
  | xor=>cases q; rfl
  | _=>cases q
 have pl3:∀ {o:BinOp} {a b:Int} {u:Value},b1R o k a b=some u → plain u=true:=fun {o a b u} q=>by cases o <;> first | (cases q; rfl) | cases q
 unfold a5n at h
 cases h1:a6J (a6c op k) n m with
 | some u=>
   rw [h1] at h
   cases h
   obtain ⟨a,b,rfl,rfl,q⟩:=b2T h1
   exact ⟨b7q q t w,pl q⟩
 | none=>
   rw [h1] at h
   simp only at h
   cases hk:a2Y k k' with
   | false=>rw [hk] at h; cases h
   | true=>
     rw [hk] at h
     have:=a6t hk
     subst this
     simp only at h
     cases h2:b1R op k n m with
     | some u=>rw [h2] at h; cases h; exact ⟨c1X h2 t w,pl3 h2⟩
     | none=>
       rw [h2] at h
       simp only at h
       obtain ⟨a,b,rfl,rfl,q⟩:=b2T h
       exact ⟨c2J q t w,pl2 q⟩
theorem b8w {op:BinOp} {t:TypeId} {x y:Operand} {k k':IntKind} {n m:Int} (w:World):(eqGuard op t x y (.int k n) (.int k' m)).run P w=.ok () w:=by
 unfold eqGuard
 split <;> rfl
theorem b8H {op:BinOp} {t:TypeId} {x y:Operand} {p q:ByteArray} (w:World):(eqGuard op t x y (.string p) (.string q)).run P w=.ok () w:=by
 unfold eqGuard
 split <;> rfl
theorem c2L {op:BinOp} {x y:ByteArray} (h:b1H op x.data.toList y.data.toList=some v) (t:TypeId) (w:World):(binOp op t (.string x) (.string y)).run P w=.ok v w:=by
 have hx:x.toList=x.data.toList:=ByteArray.toList_eq x
 have hy:y.toList=y.data.toList:=ByteArray.toList_eq y
 cases op with
 | add=>
   have h':(match Nat.blt (M4 x.data.toList + M4 y.data.toList) a6w with | true=>fList (M6 x.data.toList y.data.toList) fun l=>some (Value.string ⟨⟨l⟩⟩) | false=>none)=some v:=h
   rw [a3m] at h'
   split at h'
   · rename_i hb
     cases h'
     have hb:x.size + y.size < 4294967296:=by
      have:M4 x.data.toList + M4 y.data.toList < a6w:=by simpa [Nat.blt_eq] using hb
      rw [a0m,a0m] at this
      exact this
     have hm:¬ (((x.size + y.size:Nat):Int) > IntKind.i64.max):=by
      have:IntKind.i64.max=9223372036854775807:=rfl
      rw [this]; omega
     show (Op.stringOp .add x y).run P w=_
     unfold Op.stringOp
     simp only [if_neg hm,Sem.run_pure]
     congr 2
     rw [M7]
     have:(x ++ y).data=x.data ++ y.data:=by simp
     cases hxy:x ++ y with
     | mk d=>
       rw [hxy] at this
       have this':d=x.data ++ y.data:=this
       rw [this']
       congr 1
       apply Array.ext'
       simp
   · cases h'
 | eql=>cases h; show (Op.stringOp .eql x y).run P w=_; simp [Op.stringOp,hx,hy,a5v]
 | neq=>cases h; show (Op.stringOp .neq x y).run P w=_; simp [Op.stringOp,hx,hy,a5v]
 | lss=>cases h; show (Op.stringOp .lss x y).run P w=_; simp [Op.stringOp,hx,hy,a7H]
 | leq=>cases h; show (Op.stringOp .leq x y).run P w=_; simp [Op.stringOp,hx,hy,a7H,a5v]
 | gtr=>cases h; show (Op.stringOp .gtr x y).run P w=_; simp [Op.stringOp,hx,hy,a7H,a5v]
 | geq=>cases h; show (Op.stringOp .geq x y).run P w=_; simp [Op.stringOp,hx,hy,a7H]
 | _=>cases h
end
end Go.V
end
section
namespace Go.V
open Go.RowKit (Below)
section
variable {P:Program} {T:Tab} {B0:Nat} {w0:Base} {w:World} {K:KM} {s s':S} {a:Act} {fr:List Value} {v:Value}
theorem a9k {o:Option Value} (h:pureV o s=some (v,s')):∃ z,o=some z ∧ a0y 3 z=true ∧ v=z ∧ s'=s:=by
 obtain ⟨z,hz,h1⟩:=U4 h
 obtain ⟨hg,h2⟩:=R4 h1
 obtain ⟨rfl,rfl⟩:=J3 h2
 exact ⟨v,hz,hg,rfl,rfl⟩
theorem b3B {d:TypeDesc} {x' x:Value} {p:Bool} (h:a5L d x=some p) (r:VR K x' x):a5L d x'=some p:=by
 cases r with
 | plain _=>exact h
 | ptr _ _=>cases d <;> first | exact h | cases h
 | slice _ _ _ _ _ _=>cases d <;> first | exact h | cases h
 | map _=>cases d <;> first | exact h | cases h
 | agg _ _=>cases d <;> cases h
 | tuple _ _=>cases d <;> cases h
 | func _ _ _ _=>cases d <;> first | exact h | cases h
 | iface _=>cases d <;> first | exact h | cases h
theorem c1G (hT:TabOk P T) {t:TypeId} {d:TI} (hd:T.types.get t=some d) {x y:Value} {p q:Bool} (h1:a5L d.und x=some p) (h2:a5L d.und y=some q) (h3:(p || q)=true) (w:World) :
 (Op.equal t x y).run P w=.ok (p && q) w:=by
 have hu:=a2x hT hd w
 unfold Op.equal Op.maxDepth Op.equalIn
 simp only [Sem.run_bind,hu,Result.andThen_ok]
 generalize d.und=u at *
 cases u with
 | pointer e=>
   cases x with
   | pointer o1=>
     cases y with
     | pointer o2=>
       cases o1 <;> cases o2 <;> cases h1 <;> cases h2 <;> first | rfl | cases h3
     | _=>cases h2
   | _=>cases h1
 | slice e=>
   cases x with
   | slice o1 _ _=>
     cases y with
     | slice o2 _ _=>
       cases o1 <;> cases o2 <;> cases h1 <;> cases h2 <;> first | rfl | cases h3
     | _=>cases h2
   | _=>cases h1
 | map e f=>
   cases x with
   | map o1=>
     cases y with
     | map o2=>
       cases o1 <;> cases o2 <;> cases h1 <;> cases h2 <;> first | rfl | cases h3
     | _=>cases h2
   | _=>cases h1
 | func e f g=>
   cases x <;> first | (cases h1; done) | (cases y <;> first | (cases h2; done) | (cases h1; cases h2; first | rfl | cases h3))
 | interface e=>
   cases x <;> first | (cases h1; done) | (cases y <;> first | (cases h2; done) | (cases h1; cases h2; first | rfl | cases h3))
 | _=>cases h1
theorem b8K {d:TypeDesc} {x y:Value} {p q:Bool} (h1:a5L d x=some p) (h2:a5L d y=some q) (t:TypeId) :
 binOp .eql t x y=(do pure (.bool (← Op.equal t x y))) ∧ binOp .neq t x y=(do pure (.bool (!(← Op.equal t x y)))):=by
 cases x <;> first
  | (cases d <;> cases h1; done)
  | (cases y <;> first | (cases d <;> cases h2; done) | exact ⟨rfl,rfl⟩)
theorem b4Y {d:TypeDesc} {x y:Value} {p q:Bool} {op:BinOp} {X Y:Operand} (h1:a5L d x=some p) (h2:a5L d y=some q) (hc:(isConstO X || isConstO Y)=true) (t:TypeId) (w:World) :
 (eqGuard op t X Y x y).run P w=.ok () w:=by
 cases op <;> first
  | rfl
  | (cases x <;> first
      | (cases d <;> cases h1; done)
      | (cases y <;> first
          | (cases d <;> cases h2; done)
          | rfl
          | (cases X <;> cases Y <;> first | rfl | (cases hc; done))))
theorem c6b (hT:TabOk P T) {t:TypeId} {d:TI} {op:BinOp} {X Y:Operand} (hop:c3l op=true) (hd:T.types.get t=some d) {x y:Value} {p q:Bool} (h1:a5L d.und x=some p) (h2:a5L d.und y=some q) (h3:(p || q)=true)
 (hc:(isConstO X || isConstO Y)=true) (w:World):(do eqGuard op t X Y x y; binOp op t x y).run P w=.ok (.bool (b2y op (p && q))) w:=by
 obtain ⟨b1,b2⟩:=b8K h1 h2 t
 have he:=c1G hT hd h1 h2 h3 w
 simp only [Sem.run_bind,b4Y h1 h2 hc t w,Result.andThen_ok]
 cases op <;> first
  | (cases hop; done)
  | (rw [b1]; simp [he,b2y]; done)
  | (rw [b2]; simp [he,b2y]; done)
theorem c3g (hT:TabOk P T) {op:BinOp} {t:TypeId} {X Y:Operand} {x y x' y':Value} (h:a8z P T op t X Y x y s=some (v,s')) (rx:VR K x' x) (ry:VR K y' y) (w:World) :
 ∃ v',(do eqGuard op t X Y x' y'; binOp op t x' y').run P w=.ok v' w ∧ VR K v' v ∧ s'=s:=by
 unfold a8z at h
 cases hn:a9U T op t X Y x y with
 | some r=>
   rw [hn] at h
   obtain ⟨rfl,rfl⟩:=J3 h
   unfold a9U at hn
   split at hn
   · rename_i hc
     simp only [Bool.and_eq_true] at hc
     split at hn
     · rename_i d hd
       split at hn
       · rename_i p hp
         split at hn
         · rename_i q hq
           split at hn
           · rename_i hpq
             cases hn
             exact ⟨_,c6b hT hc.1 hd (b3B hp rx) (b3B hq ry) hpq hc.2 w,.plain rfl,rfl⟩
           · cases hn
         · cases hn
       · cases hn
     · cases hn
   · cases hn
 | none=>
   rw [hn] at h
   obtain ⟨hg,h1⟩:=R4 h
   obtain ⟨z,hz,hna,rfl,rfl⟩:=a9k h1
   simp only [Bool.and_eq_true] at hg
   rw [rx.eq_of_noAddr 8 hg.1,ry.eq_of_noAddr 8 hg.2]
   exact ⟨v,a7h hz w,a3h _ _ hna,rfl⟩
theorem c8B (hT:TabOk P T) {op:BinOp} {t:TypeId} {x y:Operand} (h:b2L P T fr op t x y s=some (v,s')) (S:Sim B0 w0 K s.h w) (hf:VRL K a.tmps.toList fr) (hg:GK T K) :
 a0R P B0 w0 K s' (do pure (Next.value (← (do eqGuard op t x y (a.eval x) (a.eval y); binOp op t (a.eval x) (a.eval y))))) w v:=by
 obtain ⟨vx,e1,h1⟩:=a2J h
 obtain ⟨vy,e2,h2⟩:=a2J h1
 have rx:=a0C hf hg e1
 have ry:=a0C hf hg e2
 have hbin:a8z P T op t x y vx vy s=some (v,s') → a0R P B0 w0 K s' (do pure (Next.value (← (do eqGuard op t x y (a.eval x) (a.eval y); binOp op t (a.eval x) (a.eval y))))) w v:=by
  intro hb
  obtain ⟨v',q1,q2,rfl⟩:=c3g hT hb rx ry w
  exact a0R.quiet S rfl q1 q2
 cases vx with
 | int k n=>
   cases vy with
   | int k' m=>
     have h3:(match a5n op k k' n m with | some v=>M.pure v | none=>a8z P T op t x y (.int k n) (.int k' m)) s=some (v,s'):=h2
     cases hi:a5n op k k' n m with
     | none=>rw [hi] at h3; exact hbin h3
     | some z=>
       rw [hi] at h3
       obtain ⟨rfl,rfl⟩:=J3 h3
       have ex:=rx.eq_of_plain rfl
       have ey:=ry.eq_of_plain rfl
       refine a0R.quiet S rfl (v':=v) ?_ (.plain (b2J (P:=P) hi t w).2)
       rw [ex,ey]
       simp only [Sem.run_bind,b8w,Result.andThen_ok,(b2J hi t w).1]
   | _=>exact absurd h2 (by intro q; cases q)
 | string p=>
   cases vy with
   | string q=>
     have h3:M.lift (b1H op p.data.toList q.data.toList) s=some (v,s'):=h2
     obtain ⟨h4,rfl⟩:=a6g h3
     have ex:=rx.eq_of_plain rfl
     have ey:=ry.eq_of_plain rfl
     refine a0R.quiet S rfl (v':=v) ?_ ?_
     · rw [ex,ey]
       simp only [Sem.run_bind,b8H,Result.andThen_ok,c2L h4]
     · refine .plain ?_
       cases op <;> first
        | (cases h4; done)
        | (have h5:(match Nat.blt (M4 p.data.toList + M4 q.data.toList) a6w with | true=>fList (M6 p.data.toList q.data.toList) fun l=>some (Value.string ⟨⟨l⟩⟩) | false=>none)=some v:=h4
           rw [a3m] at h5
           split at h5 <;> cases h5
           rfl)
        | (cases h4; rfl)
   | _=>exact absurd h2 (by intro q; cases q)
 | _=>exact hbin h2
theorem d2N {op:UnOp} {x:Operand} (h:b6p P T fr op x s=some (v,s')) (S:Sim B0 w0 K s.h w) (hf:VRL K a.tmps.toList fr) (hg:GK T K) :
 a0R P B0 w0 K s' (do pure (Next.value (← Op.unary op (a.eval x)))) w v:=by
 obtain ⟨vx,e1,h1⟩:=a2J h
 obtain ⟨hgd,h2⟩:=R4 h1
 obtain ⟨z,hz,hna,rfl,rfl⟩:=a9k h2
 have ex:=(a0C hf hg e1).eq_of_plain hgd
 rw [ex]
 exact a0R.quiet S rfl (a7h hz w) (a3h _ _ hna)
theorem c4l (hT:TabOk P T) {t:TypeId} {x y:Operand} (h:a9I T fr t x y s=some (v,s')) (S:Sim B0 w0 K s.h w) (hf:VRL K a.tmps.toList fr) (hg:GK T K) :
 a0R P B0 w0 K s' (do pure (Next.value (← Instr.index t (a.eval x) (a.eval y)))) w v:=by
 obtain ⟨vx,e1,h1⟩:=a2J h
 obtain ⟨vy,e2,h2⟩:=a2J h1
 obtain ⟨j,hj,h3⟩:=U4 h2
 obtain ⟨d,hd,h4⟩:=a2c h3
 obtain ⟨k,rfl⟩:=a7y hj
 have ey:=(a0C hf hg e2).eq_of_plain rfl
 have rx:=a0C hf hg e1
 generalize hu:d.und=u at h4
 cases u with
 | string=>
   cases vx with
   | string b=>
     obtain ⟨c,hc,h5⟩:=U4 h4
     obtain ⟨rfl,rfl⟩:=J3 h5
     have ex:=rx.eq_of_plain rfl
     rw [a4H] at hc
     have hc':b[j]?=some c:=by
      have hlt:j < b.data.toList.length:=(List.getElem?_eq_some_iff.1 hc).1
      have hlt':j < b.size:=hlt
      rw [getElem?_pos b j hlt']
      rw [List.getElem?_eq_getElem hlt] at hc
      exact hc
     refine a0R.quiet S rfl (v':=a7C c) ?_ (.plain rfl)
     rw [ex,ey]
     simp only [Instr.index,Sem.run_bind,asIntOf,Sem.run_pure,Result.andThen_ok,a2x hT hd,hu]
     simp [hc',a7C]
   | _=>exact absurd h4 (by intro q; cases q)
 | array len elem=>
   cases vx with
   | agg cs=>
     obtain ⟨e,he,h5⟩:=a2c h4
     obtain ⟨hlt,h6⟩:=R4 h5
     obtain ⟨cs',ex,r⟩:=c2p rx
     obtain ⟨u',q1,q2,rfl⟩:=b6I hT h6 r w
     have hlt:j < len:=by simpa [Nat.blt_eq] using hlt
     refine a0R.quiet S rfl ?_ q2
     rw [ex,ey]
     simp only [Instr.index,Sem.run_bind,asIntOf,Sem.run_pure,Result.andThen_ok,a2x hT hd,hu]
     simp [hlt,a3j hT he] at q1 ⊢
     exact q1
   | _=>exact absurd h4 (by intro q; cases q)
 | _=>exact absurd h4 (by intro q; cases q)
end
end Go.V
end
section
namespace Go.V
open Go.RowKit (Below)
section
variable {P:Program} {T:Tab} {B0:Nat} {w0:Base} {w:World} {K:KM} {s s':S} {a:Act} {fr:List Value} {v:Value}
theorem b0Z:∀ (vs:List Value) (bs:List UInt8),b1J vs=some bs → ∃ ns:List Int,vs=ns.map (fun n=>Value.int .u8 n) ∧ bs=ns.map fun n=>UInt8.ofNat n.toNat
 | [],bs,h=>by cases h; exact ⟨[],rfl,rfl⟩
 | v :: vs,bs,h=>by
   have h':(match b4g v with | none=>none | some b=>(match b1J vs with | some bs=>some (b :: bs) | none=>none))=some bs:=h
   cases hb:b4g v with
   | none=>rw [hb] at h'; cases h'
   | some b=>
     rw [hb] at h'
     cases hr:b1J vs with
     | none=>rw [hr] at h'; cases h'
     | some bs1=>
       rw [hr] at h'
       cases h'
       obtain ⟨ns,e1,e2⟩:=b0Z vs bs1 hr
       cases v with
       | int k n=>
         cases k with
         | u8=>cases hb; exact ⟨n :: ns,by rw [e1]; rfl,by rw [e2]; rfl⟩
         | _=>cases hb
       | _=>cases hb
theorem c0G (ns:List Int):∀ (acc:ByteArray),ns.foldl (fun r n=>r.push (UInt8.ofNat n.toNat)) acc=⟨⟨acc.data.toList ++ ns.map fun n=>UInt8.ofNat n.toNat⟩⟩:=by
 induction ns with
 | nil=>intro acc; simp
 | cons n ns ih=>
   intro acc
   simp only [List.foldl_cons,ih,List.map_cons]
   congr 2
   simp [ByteArray.push]
theorem c0N (hT:TabOk P T) {src dst:TypeId} {x:Operand} (h:a8p T fr src dst x s=some (v,s')) (S:Sim B0 w0 K s.h w) (F:a2S K s s') (hf:VRL K a.tmps.toList fr) (hg:GK T K) :
 a0R P B0 w0 K s' (do pure (Next.value (← convert src dst (a.eval x)))) w v:=by
 obtain ⟨vx,e1,h1⟩:=a2J h
 obtain ⟨sd,hs,h2⟩:=a2c h1
 obtain ⟨dd,hd,h3⟩:=a2c h2
 have rx:=a0C hf hg e1
 have us:=fun w=>a2x (P:=P) hT hs w
 have ud:=fun w=>a2x (P:=P) hT hd w
 generalize hu:dd.und=u at h3 ud
 cases u with
 | int k=>
   cases vx with
   | int k' n=>
     obtain ⟨rfl,rfl⟩:=J3 h3
     have ex:=rx.eq_of_plain rfl
     refine a0R.quiet S rfl (v':=.int k (k.wrap n)) ?_ (by rw [a5H]; exact .plain rfl)
     rw [ex]
     simp [convert,us,ud,Conv.intToInt]
   | _=>exact absurd h3 (by intro q; cases q)
 | slice e=>
   cases vx with
   | string b=>
     obtain ⟨i,hi,h4⟩:=a2c h3
     obtain ⟨hgd,h5⟩:=R4 h4
     obtain ⟨ad,s1,h6,h7⟩:=M8 h5
     obtain ⟨rfl,rfl⟩:=J3 h7
     have ex:=rx.eq_of_plain rfl
     simp only [Bool.and_eq_true,a0m] at hgd
     have hlen:b.data.toList.length=b.size:=rfl
     have hby:i.und=.int .u8:=by
      have:=hgd.1
      cases hiu:i.und with
      | int k=>cases k <;> first | rfl | (rw [hiu] at this; cases this)
      | _=>rw [hiu] at this; cases this
     rw [a3X] at h6
     have hv:VRL K (b.data.toList.map a7C) (b.data.toList.map a7C):=VRL.refl_plain _ (fun y hy=>by obtain ⟨z,_,rfl⟩:=List.mem_map.1 hy; rfl)
     let cap:=(Question.appendCap b.size 0 e).cut (w.tape w.drawn (Question.appendCap b.size 0 e))
     have hcap:b.size ≤ cap:=by show b.size ≤ b.size + _ % _; exact Nat.le_add_right _ _
     let arr:Array Value:=b.data.map (fun x=>Value.int .u8 x.toNat) ++ Array.replicate (cap - b.size) (.int .u8 0)
     have harr:arr.toList=b.data.toList.map a7C ++ List.replicate (cap - b.size) (.int .u8 0):=by
      simp only [arr,Array.toList_append,Array.toList_map,Array.toList_replicate]; rfl
     have hasz:arr.size=cap:=by
      rw [← Array.length_toList,harr]; simp; show b.size + (cap - b.size)=cap; omega
     let w1:World:=(w.drew.alloc (.cells arr e))
     let w2:World:=w1.freeze { block:=w.heap.size,off:=arr.size } 1
     have hblk:w2.heap[w.heap.size]?=some (.cells arr e (arr.size,arr.size + 1)):=by
      show ((w.heap.push (.cells arr e (0, 0))).modify w.heap.size _)[w.heap.size]?=_
      rw [Array.getElem?_modify,if_pos rfl,Array.getElem?_push_size]; rfl
     have G:Grew w w2:=by
      refine ⟨rfl,rfl,rfl, ?_, ?_⟩
      · show w.heap.size ≤ ((w.heap.push (.cells arr e (0, 0))).modify w.heap.size _).size
        simp
      · intro k hk
        show ((w.heap.push (.cells arr e (0, 0))).modify w.heap.size _)[k]?=_
        rw [Array.getElem?_modify,if_neg (by omega),Array.getElem?_push,if_neg (by omega)]
     obtain ⟨K',k1,k2,rfl⟩:=a6B (w':=w2) (arr:=arr) (e:=e) h6 S F hv G hblk harr (fun o ho=>by dsimp only; omega)
     refine a0R.step (v':=.slice (some ⟨w.heap.size, 0,none⟩) b.size cap) (w':=w2) ?_ k1 ?_
     · rw [ex]
       have ue:=fun w=>a2x (P:=P) hT hi w
       rw [hby] at ue
       simp only [convert,Sem.run_bind,us,ud,Result.andThen_ok]
       cases sd.und <;> (
        simp only [Sem.run_bind,ue,Result.andThen_ok,Conv.stringToBytes,run_choose,Question.forced,Bool.false_eq_true,if_false,newRow,run_newObj,Sem.run_pure,markStringish,run_shape]
        simp only [World.shape?,Array.getElem?_push_size]
        rfl)
     · rw [a0m]
       refine VR.slice (off:=0) k2 (Nat.zero_le _) (by omega) hcap rfl (Or.inr ⟨rfl,rfl,fun _=>?_⟩)
       dsimp only
       rw [hasz]; omega
   | _=>exact absurd h3 (by intro q; cases q)
 | string=>
   cases vx with
   | string b=>
     obtain ⟨rfl,rfl⟩:=J3 h3
     have ex:=rx.eq_of_plain rfl
     refine a0R.quiet S rfl (v':=.string b) ?_ (.plain rfl)
     rw [ex]
     simp only [convert,Sem.run_bind,us,ud,Result.andThen_ok]
     cases sd.und <;> rfl
   | int k n=>
     obtain ⟨rfl,rfl⟩:=J3 h3
     have ex:=rx.eq_of_plain rfl
     refine a0R.quiet S rfl (v':=.string (Utf8.encode n)) ?_ (.plain rfl)
     rw [ex]
     simp only [convert,Sem.run_bind,us,ud,Result.andThen_ok]
     cases sd.und <;> rfl
   | slice o len es=>
     generalize hsu:sd.und=su at h3 us
     cases su with
     | slice e=>
       obtain ⟨_,h4⟩:=R4 h3
       obtain ⟨i,hi,h5⟩:=a2c h4
       obtain ⟨hgd,h6⟩:=R4 h5
       obtain ⟨vs,s1,h7,h8⟩:=M8 h6
       obtain ⟨bs,hbs,h9⟩:=U4 h8
       obtain ⟨rfl,rfl⟩:=J3 h9
       obtain ⟨n,vs',c1,c2,c3,c4,c5,c6⟩:=b2X (P:=P) h7 (by omega) S rx
       have hby:i.und=.int .u8:=by
        cases hiu:i.und with
        | int k=>cases k <;> first | rfl | (rw [hiu] at hgd; cases hgd)
        | _=>rw [hiu] at hgd; cases hgd
       have ue:=fun w=>a2x (P:=P) hT hi w
       rw [hby] at ue
       obtain ⟨ns,e2,e3⟩:=b0Z vs bs hbs
       have hvs:vs'=ns.map (fun n=>Value.int .u8 n):=by
        apply List.ext_getElem?
        intro j
        rw [← e2]
        cases hj:vs[j]? with
        | none=>rw [List.getElem?_eq_none (by rw [c3.len]; exact List.getElem?_eq_none_iff.1 hj)]
        | some z=>
          obtain ⟨z',q1,q2⟩:=c3.get? hj
          rw [q1]
          have:z ∈ ns.map (fun n=>Value.int .u8 n):=by rw [← e2]; exact List.mem_of_getElem? hj
          obtain ⟨m,_,rfl⟩:=List.mem_map.1 this
          rw [q2.eq_of_plain rfl]
       refine a0R.quiet S c5 (v':=.string ⟨⟨bs⟩⟩) ?_ (.plain rfl)
       have hconv:(convert src dst (a.eval x)).run P w=(Conv.bytesToString (a.eval x)).run P w:=by
        rcases a5D rx with ⟨_,ad',cap,_,p2,_⟩ | ⟨_,_,_,p4⟩
        · rw [p2]; simp only [convert,Sem.run_bind,us,ud,Result.andThen_ok,ue]
        · rw [p4]; simp only [convert,Sem.run_bind,us,ud,Result.andThen_ok,ue]
       rw [hconv]
       rcases a5D rx with ⟨_,ad',cap,_,p2,_⟩ | ⟨_,_,_,p4⟩
       · rw [p2] at c1 c2 ⊢
         have hn:n=len:=by have:=c1 w; simp [Builtin.lenOf] at this; exact this.symm
         have hl:(loadCells ad' len).run P w=.ok ((ns.map (fun n=>Value.int .u8 n)).toArray) w:=by
          have:=c2 w (fun _=>rfl)
          rw [hvs,hn] at this
          simpa [Builtin.firstCells] using this
         rw [run_bytesToString w ad' len cap ns hl,c0G,e3]
         simp
       · rw [p4] at c1 c2 ⊢
         have hn:n=0:=by have:=c1 w; simp [Builtin.lenOf] at this; exact this.symm
         have:vs'=[]:=List.eq_nil_of_length_eq_zero (by rw [c4,hn])
         rw [this] at hvs
         have hns:ns=[]:=by cases ns with
          | nil=>rfl
          | cons=>simp at hvs
         rw [e3,hns]
         rfl
     | _=>exact absurd h3 (by intro q; cases q)
   | _=>cases hq:sd.und <;> rw [hq] at h3 <;> exact absurd h3 (by intro q; cases q)
 | _=>exact absurd h3 (by intro q; cases q)
theorem c0i (hT:TabOk P T) {b:Builtin} {args:Array Operand} {ts:Array TypeId} {ty:TypeId} {consts:Array Bool} (h:a8l P T fr b args ts s=some (v,s')) (S:Sim B0 w0 K s.h w) (F:a2S K s s') (hf:VRL K a.tmps.toList fr) (hg:GK T K) :
 a0R P B0 w0 K s' (builtin b ts ty consts (args.map a.eval)) w v:=by
 obtain ⟨vs,e1,h1⟩:=a6U h
 have r:=a6E hf hg e1
 have hargs:args.map a.eval=(args.toList.map a.eval).toArray:=by apply Array.ext'; simp
 rw [hargs]
 cases b with
 | append=>
   obtain ⟨hlen2,h2⟩:=R4 h1
   rw [a0m] at hlen2
   obtain ⟨v',w',K',q1,q2,q3⟩:=c0x (ty:=ty) hT (by rw [r.len]; exact Nat.eq_of_beq_eq_true hlen2) h2 S F r
   exact a0R.step q1 q2 q3
 | len=>
   obtain ⟨t,e2,h2⟩:=U4 h1
   obtain ⟨d,hd,h3⟩:=a2c h2
   obtain ⟨x,e3,h4⟩:=U4 h3
   rw [a4H,a6W] at e2
   rw [a4H] at e3
   obtain ⟨x',e4,rx⟩:=r.get? e3
   have e4':(args.toList.map a.eval).toArray[0]?=some x':=by simpa using e4
   have hu:=a2x (P:=P) hT hd w
   have hlen:∃ n,(Builtin.len_ ts ty (args.toList.map a.eval).toArray).run P w=.ok (goInt n) w ∧ v=goInt n ∧ s'.h=s.h:=by
    unfold Builtin.len_
    simp only [e2,e4']
    simp only [Sem.run_bind,hu,Result.andThen_ok]
    unfold c2R at h4
    generalize d.und=u at *
    cases u with
    | array n e=>
      obtain ⟨rfl,rfl⟩:=J3 h4
      exact ⟨n,rfl,rfl,rfl⟩
    | string=>
      cases x with
      | string p=>
        obtain ⟨rfl,rfl⟩:=J3 h4
        rw [rx.eq_of_plain rfl]
        exact ⟨p.size,rfl,by rw [a0m]; rfl,rfl⟩
      | _=>exact absurd h4 (by intro q; cases q)
    | slice e=>
      cases x with
      | slice o n es=>
        obtain ⟨rfl,rfl⟩:=J3 h4
        rcases a5D rx with ⟨_,ad',cap,_,p2,_⟩ | ⟨_,p2,_,p4⟩
        · rw [p2]; exact ⟨n,rfl,rfl,rfl⟩
        · rw [p4,p2]; exact ⟨0,rfl,rfl,rfl⟩
      | _=>exact absurd h4 (by intro q; cases q)
    | map k e=>
      obtain ⟨es,s1,h5,h6⟩:=M8 h4
      obtain ⟨rfl,rfl⟩:=J3 h6
      obtain ⟨c1,c2,c3⟩:=a9B h5 S rx
      rcases c3 with ⟨q1,rfl⟩ | ⟨b,l,es',clock,_,q2,q3,q4,q5,q6,q7⟩
      · rw [q1]; exact ⟨0,rfl,rfl,c1⟩
      · rw [q2]
        simp only [Sem.run_bind,a6S q6 (by intro c e f q; cases q),Result.andThen_ok,Sem.run_pure]
        exact ⟨es'.size,rfl,by rw [a0m, ← q7.len]; simp,c1⟩
    | _=>exact absurd h4 (by intro q; cases q)
   obtain ⟨n,q1,rfl,q3⟩:=hlen
   exact a0R.quiet S q3 q1 (.plain rfl)
 | max=>
   obtain ⟨hp,h2⟩:=R4 h1
   obtain ⟨z,hz,hna,rfl,rfl⟩:=a9k h2
   have hvs:args.toList.map a.eval=vs:=by
    apply List.ext_getElem?
    intro i
    cases hi:vs[i]? with
    | none=>exact List.getElem?_eq_none (by rw [r.len]; exact List.getElem?_eq_none_iff.1 hi)
    | some y=>
      obtain ⟨y',q1,q2⟩:=r.get? hi
      rw [q1,q2.eq_of_plain ((a1a _ _).1 hp _ (List.mem_of_getElem? hi))]
   rw [hvs]
   exact a0R.quiet S rfl (a7h hz w) (a3h _ _ hna)
 | min=>
   obtain ⟨hp,h2⟩:=R4 h1
   obtain ⟨z,hz,hna,rfl,rfl⟩:=a9k h2
   have hvs:args.toList.map a.eval=vs:=by
    apply List.ext_getElem?
    intro i
    cases hi:vs[i]? with
    | none=>exact List.getElem?_eq_none (by rw [r.len]; exact List.getElem?_eq_none_iff.1 hi)
    | some y=>
      obtain ⟨y',q1,q2⟩:=r.get? hi
      rw [q1,q2.eq_of_plain ((a1a _ _).1 hp _ (List.mem_of_getElem? hi))]
   rw [hvs]
   exact a0R.quiet S rfl (a7h hz w) (a3h _ _ hna)
 | _=>exact absurd h1 (by intro q; cases q)
theorem b8q (hT:TabOk P T) {o:Oper} (h:a8c P T fr o.op s=some (v,s')) (S:Sim B0 w0 K s.h w) (F:a2S K s s') (hf:VRL K a.tmps.toList fr) (hg:GK T K) :
 a0R P B0 w0 K s' (execOp a.eval o) w v:=by
 obtain ⟨dst,op,type,pos,after,guard⟩:=o
 cases op with
 | move x=>exact b9u h S hf hg
 | assign x=>exact b9u h S hf hg
 | pick c x y=>exact c7h h S hf hg
 | alloc t=>exact c3p hT h S F
 | box t x=>exact c7O h S F hf hg
 | build t ps=>exact c3U hT h S hf hg
 | buildSlice t len ps=>exact b5h hT h S F hf hg
 | load t x=>exact c5Y hT h S hf hg
 | store t x y=>exact c2Q hT h S hf hg
 | nilCheck x=>exact b9a rfl h S hf hg
 | binOp op t x y yt=>exact c8B hT h S hf hg
 | unOp op t x=>exact d2N h S hf hg
 | convert x y z=>exact c0N hT h S F hf hg
 | makeInterface t x=>exact c2T hT h S hf hg
 | makeFunc fn x y=>exact c6L h S hf hg
 | makeMap t r=>exact d0M hT h S F hf hg
 | makeSlice t x y=>exact c6U hT h S F hf hg
 | slice t x lo hi mx=>exact c3f hT h S hf hg
 | fieldAddr t x f=>exact b6j hT h S hf hg
 | field t x f=>exact c4t hT h S hf hg
 | indexAddr t x i=>exact b7v hT h S hf hg
 | index t x i=>exact c4l hT h S hf hg
 | lookup t x i ok=>exact c1T hT h S hf hg
 | mapUpdate t m k x=>exact b4Q hT h S hf hg
 | insert t m k x=>exact b4Q hT h S hf hg
 | range t x=>exact c3u hT h S F hf hg
 | next x str=>exact c6h h S hf hg
 | extract x i=>exact b9Y h S hf hg
 | _=>exact absurd h (by intro q; cases q)
end
end Go.V
end
section
namespace Go.V
open Go.RowKit (Below)
section
variable {P:Program} {T:Tab} {B0:Nat} {w0:Base} {w:World} {K:KM} {s s':S} {a:Act} {fr:List Value} {v:Value}
def a5Z (P:Program) (T:Tab) (B0:Nat) (w0:Base) (call:Nat → List Value → M Value):Prop:=
 ∀ f vs s v s' w K vs',call f vs s=some (v,s') → Sim B0 w0 K s.h w → GK T K → a2S K s s' → VRL K vs' vs →
   (∃ v' w' K',(callFunc f vs'.toArray).run P w=.ok (.value v') w' ∧ Step B0 w0 K s' w' K' ∧ VR K' v' v) ∨
   ((callFunc f vs'.toArray).run P w=.ok (.enter f vs'.toArray) w ∧ Calls P f vs'.toArray w fun e w'=>∃ v' K',e=.returned v' ∧ Step B0 w0 K s' w' K' ∧ VR K' v' v)
theorem b3P {x':Value} {fn:Fn} {x y:Array Value} (r:VR K x' (.func fn x y)):∃ x1 y1,x'=.func fn x1 y1 ∧ VRL K x1.toList x.toList ∧ VRL K y1.toList y.toList:=by
 generalize hv:Value.func fn x y=z at r
 cases r with
 | plain hp=>subst hv; simp [V.plain] at hp
 | func h1 h2 h3 h4=>cases hv; exact ⟨_,_,rfl,⟨h1,h2⟩,⟨h3,h4⟩⟩
 | _=>cases hv
theorem a9c (hT:TabOk P T) {call:Nat → List Value → M Value} (hC:a5Z P T B0 w0 call) {o:Oper} (h:a3E P T call fr o.op s=some (v,s')) (S:Sim B0 w0 K s.h w) (F:a2S K s s')
 (hf:VRL K a.tmps.toList fr) (hg:GK T K) {next:Act → World → Prop} {Q:Exit → Act → World → Prop}
 (hn:∀ v' w' K',Step B0 w0 K s' w' K' → VR K' v' v → next (a.put o.dst v') w'):o.wp P a w next Q:=by
 have good:a0R P B0 w0 K s' (execOp a.eval o) w v → o.wp P a w next Q:=by
  rintro ⟨n,w',K',r1,r2,r3⟩
  unfold Oper.wp
  rw [r1]
  rcases r3 with ⟨v',rfl,r⟩ | ⟨rfl,rfl⟩
  · exact hn v' w' K' r2 r
  · exact hn undef w' K' r2 (VR.undef K')
 unfold a3E at h
 cases hc:a9W o.op with
 | none=>
   rw [hc] at h
   exact good (b8q hT h S F hf hg)
 | some c=>
   rw [hc] at h
   have hop:o.op=.call c:=by
    cases ho:o.op <;> rw [ho] at hc <;> first | (cases hc; rfl) | cases hc
   have h':b0d P T call fr c s=some (v,s'):=h
   have hex:execOp a.eval o=(do let d ← resolve a.eval c o.type; invoke d.target d.args):=by
    unfold execOp; rw [hop]
   unfold b0d at h'
   cases hcal:c.callee with
   | builtin b=>
     rw [hcal] at h'
     refine good ?_
     have:=c0i (ty:=o.type) (consts:=c.args.map fun | .const _=>true | _=>false) hT h' S F hf hg
     rw [hex]
     have e:(do let d ← resolve a.eval c o.type; invoke d.target d.args)=builtin b c.argTypes o.type (c.args.map fun | .const _=>true | _=>false) (c.args.map a.eval):=by
      unfold resolve; rw [hcal]; rfl
     rw [e]
     exact this
   | value f=>
     rw [hcal] at h'
     obtain ⟨vf,e1,h1⟩:=a2J h'
     obtain ⟨vs,e2,h2⟩:=a6U h1
     have rf:=a0C hf hg e1
     have rs:=a6E hf hg e2
     cases vf with
     | func fn first captured=>
       cases fn with
       | func g=>
         have h3:call g (M6 first.toList (M6 vs captured.toList)) s=some (v,s'):=h2
         rw [M7,M7] at h3
         obtain ⟨f1,c1,ef,rf1,rc1⟩:=b3P rf
         have rargs:VRL K (f1.toList ++ (c.args.toList.map a.eval ++ c1.toList)) (first.toList ++ (vs ++ captured.toList)):=rf1.append (rs.append rc1)
         have e:execOp a.eval o=callFunc g (f1.toList ++ (c.args.toList.map a.eval ++ c1.toList)).toArray:=by
          rw [hex]
          unfold resolve
          rw [hcal]
          show (do let d ← Deferred.ofValue (a.eval f) (c.args.map a.eval); invoke d.target d.args)=_
          rw [ef]
          show callFunc g (f1 ++ c.args.map a.eval ++ c1)=_
          congr 1
          apply Array.ext'
          simp
         rcases hC g _ s v s' w K _ h3 S hg F rargs with ⟨v',w',K',q1,q2,q3⟩ | ⟨q1,q2⟩
         · exact good ⟨.value v',w',K',by rw [e]; exact q1,q2,Or.inl ⟨v',rfl,q3⟩⟩
         · unfold Oper.wp
           rw [e,q1]
           refine q2.mono fun en w' hq=>?_
           obtain ⟨v',K',rfl,r1,r2⟩:=hq
           exact hn v' w' K' r1 r2
       | _=>exact absurd h2 (by intro q; cases q)
     | _=>exact absurd h2 (by intro q; cases q)
   | invoke r m=>rw [hcal] at h'; cases h'
theorem a8G (ops:Array Oper) (tmps:Array Value) (hf:VRL K tmps.toList fr) (o:Oper):Region.wanted o (yielded ops tmps)=a3r ops.toList fr o:=by
 unfold Region.wanted a3r
 cases o.guard with
 | none=>rfl
 | some jb=>
   obtain ⟨j,b⟩:=jb
   show (yielded ops tmps j == some b)=(match a5N ops.toList j with | some t=>O7 b (d9 fr t) | none=>false)
   have hd:a5N ops.toList j=(ops[j]?).bind (·.dst):=by
    unfold a5N
    rw [a4H,a6W]
    cases ops[j]? <;> rfl
   rw [hd]
   unfold yielded
   cases ho:ops[j]? with
   | none=>rfl
   | some o'=>
     simp only [Option.bind_some]
     cases o'.dst with
     | none=>rfl
     | some t=>
       show ((match tmps[t]? with | some (.bool b)=>some b | _=>none) == some b)=O7 b (d9 fr t)
       have r:=hf.lget t
       rw [a5A tmps.toList,a6W] at r
       cases ht:tmps[t]? with
       | none=>
         have:d9 fr t=undef:=by
          rw [a5A,List.getElem?_eq_none]
          · rfl
          · rw [← hf.len]; simpa using ht
         rw [this]; rfl
       | some x=>
         rw [ht] at r
         have r:VR K x (d9 fr t):=r
         generalize d9 fr t=y at r
         cases r with
         | plain hp=>
           cases x with
           | bool b'=>show (some b' == some b)=(b' == b); rfl
           | _=>rfl
         | _=>rfl
theorem a7W {K':KM} (hf:VRL K' a.tmps.toList fr) (o:Oper) {v':Value} (r:VR K' v' v):VRL K' (a.put o.dst v').tmps.toList (a0U fr o v):=by
 unfold Act.put a0U
 cases o.dst with
 | none=>exact hf
 | some t=>
   have:=hf.lset t r
   simpa using this
theorem a4D (a:Act) (d:Option Tmp) (v:Value):(a.put d v).defers=a.defers:=by cases d <;> rfl
theorem Step.trans {s1 s2:S} {w1 w2:World} {K1 K2:KM} (h1:Step B0 w0 K s1 w1 K1) (h2:Step B0 w0 K1 s2 w2 K2) (hc:s1.c ≤ s2.c):Step B0 w0 K s2 w2 K2:=
 ⟨KM.le_trans h1.le h2.le,fun i g hi=>(h2.far i g hi).trans (h1.far i g (Nat.le_trans hc hi)),h2.sim⟩
theorem a2S.right {α:Type} {m:M α} {x:α} {s1 s2:S} {K1:KM} (F:a2S K s s2) (hm:Fr m) (h1:m s=some (x,s1)):a2S K1 s1 s2:=fun i hi hi2=>by
 obtain ⟨dr,dw,_,_,e3,_,e5,_,e7,_⟩:=hm s x s1 h1
 rw [e7 i (fun q=>by have:=e5 i q; omega)]
 exact F i (Nat.le_trans e3 hi) hi2
theorem a2S.left {s1 s2:S} (F:a2S K s s2) (hc:s1.c ≤ s2.c):a2S K s s1:=fun i hi hi2=>F i hi (Nat.lt_of_lt_of_le hi2 hc)
theorem Fr.le {α:Type} {m:M α} (h:Fr m) {x:α} (e:m s=some (x,s')):s.c ≤ s'.c:=let ⟨_,_,_,_,q,_⟩:=h s x s' e; q
def b1s (B0:Nat) (w0:Base) (K:KM) (s':S) (ds:List Deferred) (ex:Ex) (fr':List Value):Exit → Act → World → Prop:=fun e a' w'=>
 ∃ K',Step B0 w0 K s' w' K' ∧ VRL K' a'.tmps.toList fr' ∧ a'.defers=ds ∧ (match ex with | .normal=>e=.normal | .exit id=>e=.exit id | .ret=>e=.ret)
theorem c2u (hT:TabOk P T) {call:Nat → List Value → M Value} (hC:a5Z P T B0 w0 call) (hF:∀ f vs,Fr (call f vs)) (ops:Array Oper) {Q:Exit → Act → World → Prop} :
 ∀ (n k:Nat) (fr fr':List Value) (s s':S) (K:KM) (a:Act) (w:World),k + n=ops.size → a6G P T call ops.toList (ops.toList.drop k) fr s=some (fr',s') → Sim B0 w0 K s.h w → a2S K s s' → VRL K a.tmps.toList fr → GK T K →
   (∀ a' w' K',Step B0 w0 K s' w' K' → VRL K' a'.tmps.toList fr' → a'.defers=a.defers → Q .normal a' w') → wpOps P ops Q (List.range' k n) a w:=by
 intro n
 induction n with
 | zero=>
   intro k fr fr' s s' K a w hk h S F hf hg hq
   have:ops.toList.drop k=[]:=List.drop_eq_nil_of_le (by simp; omega)
   rw [this] at h
   obtain ⟨rfl,rfl⟩:=J3 h
   exact hq a w K (Step.same S rfl) hf rfl
 | succ n ih=>
   intro k fr fr' s s' K a w hk h S F hf hg hq
   have hlt:k < ops.size:=by omega
   have hd:ops.toList.drop k=ops[k] :: ops.toList.drop (k + 1):=by
    rw [List.drop_eq_getElem_cons (by simpa using hlt)]; simp
   rw [hd,a9x] at h
   rw [List.range'_succ]
   simp only [wpOps,Array.getElem?_eq_getElem hlt]
   rw [a8G ops a.tmps hf]
   cases hw:a3r ops.toList fr ops[k] with
   | true=>
     rw [hw] at h
     simp only [if_true] at h ⊢
     left
     obtain ⟨v,s1,h1,h2⟩:=M8 h
     have hle2:=(Fr.runOps P T hF _ _ _).le h2
     refine a9c hT hC h1 S (F.left hle2) hf hg fun v' w' K' st r=>?_
     refine ih (k + 1) _ fr' s1 s' K' _ w' (by omega) h2 st.sim (F.right (Fr.stepOp P T hF _ _) h1) (a7W (hf.mono st.le) _ r) (hg.mono st.le) fun a2 w2 K2 st2 r2 d2=>?_
     exact hq a2 w2 K2 (st.trans st2 hle2) r2 (by rw [d2,a4D])
   | false=>
     rw [hw] at h
     simp only [Bool.false_eq_true,if_false] at h ⊢
     refine ih (k + 1) _ fr' s s' K _ w (by omega) h S F (a7W hf _ (VR.undef K)) hg fun a2 w2 K2 st2 r2 d2=>?_
     exact hq a2 w2 K2 st2 r2 (by rw [d2,a4D])
end
end Go.V
end
