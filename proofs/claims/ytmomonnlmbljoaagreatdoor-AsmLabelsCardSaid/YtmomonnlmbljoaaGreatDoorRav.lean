import Derived.Lib.IndexMore
import Derived.Lib.Join
import Derived.Lib.Repeat
import Derived.Test.YtmomonnlmbljoaaGreatDoorRan
import Derived.Test.YtmomonnlmbljoaaGreatDoorRap
import Derived.Test.YtmomonnlmbljoaaGreatDoorRau
section
namespace Go.Proofs.YtmomonnlmbljoaaGreatDoor
open Go.V Go.RowKit Go.Shelf Go.Proofs
set_option maxRecDepth 100000
variable {mL:Int}
noncomputable def b1g (l:List (Nat×List UInt8)) (m:Nat):List UInt8:=List.rec (motive:=fun _=>List UInt8) [] (fun x _ ih=>match Nat.beq x.1 m with
 | true=>x.2
 | false=>ih) l
theorem d4G (m:Nat) (l:List (Nat×List UInt8)):(match l.find? (fun x=>(Int.ofNat x.1) == Int.ofNat m) with | some x=>(⟨⟨x.2⟩⟩:ByteArray) | none=>ByteArray.empty)=⟨⟨b1g l m⟩⟩:=by
 induction l with
 | nil=>rfl
 | cons x l ih=>
   show _=(⟨⟨match Nat.beq x.1 m with | true=>x.2 | false=>b1g l m⟩⟩:ByteArray)
   rw [List.find?_cons]
   cases hb:Nat.beq x.1 m with
   | true=>
     have:(Int.ofNat x.1 == Int.ofNat m)=true:=by simp [Nat.eq_of_beq_eq_true hb]
     rw [this]
   | false=>
     have:(Int.ofNat x.1 == Int.ofNat m)=false:=by
      have hne:x.1≠m:=fun e=>by rw [e] at hb; simp at hb
      rw [beq_eq_false_iff_ne]; intro e; exact hne (Int.ofNat.inj e)
     rw [this]
     exact ih
noncomputable def b0W (bs:List Value):Option Value:=match bs with
 | []=>none
 | v::rest=>match rest with
   | []=>match v with
     | .int k n=>match k with
       | .i64=>match n with
         | .ofNat m=>some (.string ⟨⟨b1g O8 m⟩⟩)
         | .negSucc _=>none
       | _=>none
     | _=>none
   | _::_=>none
theorem b9w {bs:List Value} {v:Value} (h:b0W bs=some v):L6 (G8 8) bs=true∧G8 8 v=true∧a0t Tryz.prog (K4 mL) 35 bs v:=by
 unfold b0W at h
 split at h
 · cases h
 · split at h
   · split at h
     · split at h
       · split at h
         · rename_i m
           cases h
           refine ⟨rfl,rfl,fun w hL=>⟨N7 Tryz.func35 (by kernel_rfl) rfl, ?_⟩⟩
           refine (callsIn_wide.1 (d7K 3 (by omega) (Int.ofNat m) w hL)).mono fun e W' hq=>?_
           obtain ⟨rfl,hb⟩:=hq
           refine ⟨?_,hb⟩
           have e:a5R (Int.ofNat m)=⟨⟨b1g O8 m⟩⟩:=d4G m O8
           rw [e]
         · cases h
       · cases h
     · cases h
   · cases h
noncomputable def a4b (l:List (Nat×List UInt8)) (b:List UInt8):Value:=List.rec (motive:=fun _=>Value) (.tuple ⟨[.int .i64 (.ofNat 0),.bool false]⟩) (fun x _ ih=>match beqBytes x.2 b with
 | true=>.tuple ⟨[.int .i64 (.ofNat x.1),.bool true]⟩
 | false=>ih) l
noncomputable def b1h (bs:List Value):Option Value:=match bs with
 | []=>none
 | v::rest=>match rest with
   | []=>match v with
     | .string s=>some (a4b O8 s.data.toList)
     | _=>none
   | _::_=>none
theorem d4k (b:List UInt8) (l:List (Nat×List UInt8)):(match l.find? (fun x=>x.2 == b) with | some x=>Value.tuple #[.int .i64 (Int.ofNat x.1),.bool true] | none=>.tuple #[.int .i64 0,.bool false])=a4b l b:=by
 induction l with
 | nil=>rfl
 | cons x l ih=>
   show _=(match beqBytes x.2 b with | true=>Value.tuple ⟨[.int .i64 (.ofNat x.1),.bool true]⟩ | false=>a4b l b)
   rw [List.find?_cons,S9]
   cases hb:x.2 == b with
   | true=>rfl
   | false=>exact ih
theorem b9h (b:List UInt8) (l:List (Nat×List UInt8)):G8 8 (a4b l b)=true:=by
 induction l with
 | nil=>rfl
 | cons x l ih=>
   show G8 8 (match beqBytes x.2 b with | true=>Value.tuple ⟨[.int .i64 (.ofNat x.1),.bool true]⟩ | false=>a4b l b)=true
   cases beqBytes x.2 b with
   | true=>rfl
   | false=>exact ih
theorem b8N {bs:List Value} {v:Value} (h:b1h bs=some v):L6 (G8 8) bs=true∧G8 8 v=true∧a0t Tryz.prog (K4 mL) 109 bs v:=by
 unfold b1h at h
 split at h
 · cases h
 · split at h
   · split at h
     · rename_i s
       cases h
       refine ⟨rfl,b9h _ _,fun w hL=>⟨N7 Tryz.func109 (by kernel_rfl) rfl, ?_⟩⟩
       refine (callsIn_wide.1 (d8m 3 (by omega) s w hL)).mono fun e W' hq=>?_
       obtain ⟨rfl,hb⟩:=hq
       refine ⟨?_,hb⟩
       have e:a5F s=a4b O8 s.data.toList:=by rw [← d4k, ← Lib.toList_data]; rfl
       rw [e]
     · cases h
   · cases h
noncomputable def e1C:Nat→Option (List Value→M Value):=a1I (a1I d3A 35 b0W) 109 b1h
theorem d8i:Y5 Tryz.prog A9 (K4 mL) e1C:=a1u (a1u c0k fun _ _ h=>b9w h) fun _ _ h=>b8N h
end Go.Proofs.YtmomonnlmbljoaaGreatDoor
end
section

end
section
noncomputable section
namespace Go.V
open Go.RowKit (Below)
def a3Y (l:List UInt8):List UInt8→Bool:=
 List.rec (motive:=fun _=>List UInt8→Bool) (fun _=>true) (fun v _ ih m=>match m with
  | []=>false
  | w::m=>match Nat.beq v.toNat w.toNat with
    | true=>ih m
    | false=>false) l
def a3c (sub s:List UInt8):Bool:=
 List.rec (motive:=fun _=>Bool) (a3Y sub []) (fun c s ih=>match a3Y sub (c::s) with
  | true=>true
  | false=>ih) s
theorem b3T (l:List UInt8):∀ m,a3Y l m=l.isPrefixOf m:=by
 induction l with
 | nil=>intro m; cases m <;> rfl
 | cons v l ih=>
   intro m
   cases m with
   | nil=>rfl
   | cons w m=>
     show (match Nat.beq v.toNat w.toNat with | true=>a3Y l m | false=>false)=(v == w && l.isPrefixOf m)
     have e:Nat.beq v.toNat w.toNat=(v == w):=by
      rw [Bool.eq_iff_iff]
      constructor
      · intro h; simp; exact UInt8.toNat_inj.1 (Nat.eq_of_beq_eq_true h)
      · intro h; simp at h; subst h; simp
     rw [e,ih]
     cases v == w <;> simp
def a8D (l:List UInt8) (n:Nat):List UInt8:=Nat.rec (motive:=fun _=>List UInt8) [] (fun _ ih=>G7 l ih) n
def a1T (sep:List UInt8) (xs:List (List UInt8)):List UInt8:=List.rec (motive:=fun _=>List UInt8) [] (fun x _ ih=>G7 sep (G7 x ih)) xs
def c0u (sep:List UInt8) (xs:List (List UInt8)):List UInt8:=match xs with
 | []=>[]
 | x::xs=>G7 x (a1T sep xs)
theorem c3O (l:List UInt8) (n:Nat):a8D l n=Lib.repeatL l n:=by
 induction n with
 | zero=>rfl
 | succ n ih=>show G7 l (a8D l n)=_; rw [I5,ih]; rfl
theorem b2T (sep:List UInt8) (xs:List (List UInt8)):a1T sep xs=Lib.joinTail sep xs:=by
 induction xs with
 | nil=>rfl
 | cons x xs ih=>show G7 sep (G7 x (a1T sep xs))=_; rw [I5,I5,ih]; simp [Lib.joinTail]
theorem b2v (sep:List UInt8) (xs:List (List UInt8)):c0u sep xs=Lib.join xs sep:=by
 cases xs with
 | nil=>rfl
 | cons x xs=>show G7 x (a1T sep xs)=_; rw [I5,b2T,Lib.join_cons]
theorem b3Q (sub s:List UInt8):a3c sub s=Lib.contains s sub:=by
 unfold Lib.contains
 induction s with
 | nil=>
   show a3Y sub []=_
   rw [b3T]
   cases sub with
   | nil=>rfl
   | cons a t=>rfl
 | cons c s ih=>
   show (match a3Y sub (c::s) with | true=>true | false=>a3c sub s)=_
   rw [b3T,ih,Lib.index]
   have hge:=Lib.index_ge s sub
   cases hp:sub.isPrefixOf (c::s) with
   | true=>simp
   | false=>
     simp only [Bool.false_eq_true,if_false]
     by_cases he:Lib.index s sub=-1
     · rw [he]; rfl
     · have:(Lib.index s sub == -1)=false:=by simpa using he
       rw [this]
       simp only [Bool.false_eq_true,if_false]
       rw [Bool.eq_iff_iff]; simp; omega
def a1R (bs:List Value):Option Value:=match bs with
 | [.string s,.string sub]=>match Nat.blt (F4 s.data.toList) 4294967281 with
   | true=>some (.bool (a3c sub.data.toList s.data.toList))
   | false=>none
 | _=>none
def a3Q (bs:List Value):Option Value:=match bs with
 | [.string s,.int .i64 (.ofNat c)]=>match Nat.blt c 4294967296 && Nat.ble (F4 s.data.toList * c) 4294967296 with
   | true=>some (.string ⟨⟨a8D s.data.toList c⟩⟩)
   | false=>none
 | _=>none
def a5Y (vs:List Value):Option (List (List UInt8)):=List.rec (motive:=fun _=>Option (List (List UInt8))) (some []) (fun v _ ih=>match v with
 | .string s=>match ih with
   | some l=>some (s.data.toList::l)
   | none=>none
 | _=>none) vs
theorem c6C:∀ (vs:List Value) (l:List (List UInt8)),a5Y vs=some l→vs=l.map fun x=>.string ⟨⟨x⟩⟩:=by
 intro vs
 induction vs with
 | nil=>intro l h; cases h; rfl
 | cons v vs ih=>
   intro l h
   cases v with
   | string s=>
     have h:(match a5Y vs with | some l=>some (s.data.toList::l) | none=>none)=some l:=h
     cases hs:a5Y vs with
     | none=>rw [hs] at h; cases h
     | some l'=>rw [hs] at h; cases h; rw [ih l' hs]; rfl
   | _=>cases h
def a4e (bs:List Value):M Value:=match bs with
 | [.slice a len es,.string sep]=>match len with
   | 0=>M.pure (.string ⟨⟨[]⟩⟩)
   | n+1=>M.obind a fun a=>M.guard (Nat.beq es 1) <| M.bind (loadN a (n+1)) fun vs=>M.obind (a5Y vs) fun xs=>
     M.guard (Nat.blt n 4294967295 && Nat.blt (F4 (c0u sep.data.toList xs)) 4294967296) <| M.pure (.string ⟨⟨c0u sep.data.toList xs⟩⟩)
 | _=>M.fail
section
variable {P:Program} {T:Tab} {vs:R3}
theorem b8P {f:Nat} (hen:∀ (aS9:Array Value) w,(callFunc f aS9).run P w=.ok (.enter f aS9) w)
 (h0:∀ (a:Option Addr) (c:Nat) (sep:ByteArray) (w:World),Calls P f #[.slice a 0 c,.string sep] w fun e w'=>e=.returned (.string ⟨#[]⟩)∧w'=w)
 (h1:∀ (bk o c:Nat) (xs:List ByteArray) (sep:ByteArray) (w:World),(∀ (j:Nat) x,xs[j]?=some x→w.cell? ⟨bk,o+j,none⟩=some (.string x))→bk<w.heap.size→xs.length≤140737488355328→xs.length≤c →
   (Lib.join (xs.map (·.data.toList)) sep.data.toList).length≤140737488355328 →
   Calls P f #[.slice (some ⟨bk,o,none⟩) xs.length c,.string sep] w fun e w'=>e=.returned (.string ⟨(Lib.join (xs.map (·.data.toList)) sep.data.toList).toArray⟩)∧Below w.heap.size w w'):a0s P T vs f a4e:=by
 refine ⟨fun aS9=>?_, ?_⟩
 · unfold a4e
   split
   · split
     · exact Fr.pure _
     · exact Fr.obind _ fun a=>Fr.guard _ (Fr.bind (Fr.loadN _ _) fun _=>Fr.obind _ fun _=>Fr.guard _ (Fr.pure _))
   · exact Fr.fail
 · intro B0 w0 hL hB aS9 s v s' w K as' h S hG F has
   unfold a4e at h
   split at h
   · rename_i a len es sep
     obtain ⟨x',y',rfl⟩:∃ x' y',as'=[x',y']:=by
      have:=has.len
      match as',this with
      | [x',y'],_=>exact ⟨x',y',rfl⟩
     have ry:y'=.string sep:=(has.at_ 1 _ _ rfl rfl).eq_of_plain rfl
     have rx:VR K x' (.slice a len es):=has.at_ 0 _ _ rfl rfl
     subst ry
     refine Or.inr ⟨hen _ _, ?_⟩
     split at h
     · obtain ⟨rfl,rfl⟩:=o9 h
       have:∃ a' c,x'=.slice a' 0 c:=by
        generalize hz:Value.slice a 0 es=z at rx
        cases rx with
        | plain hp=>subst hz; exact ⟨_,_,rfl⟩
        | slice _ _ _ _ _ _=>cases hz; exact ⟨_,_,rfl⟩
        | _=>cases hz
       obtain ⟨a',c,rfl⟩:=this
       refine (h0 a' c sep w).mono fun e w' ⟨q1,q2⟩=>?_
       subst q2
       exact ⟨_,K,q1,Step.same S rfl,.plain rfl⟩
     · rename_i n
       obtain ⟨ad,ea,h2⟩:=C9 h
       subst ea
       obtain ⟨hes,h3⟩:=A8 h2
       obtain ⟨ws,s1,h4,h5⟩:=w9 h3
       obtain ⟨xs,hx,h6⟩:=C9 h5
       obtain ⟨hg,h7⟩:=A8 h6
       obtain ⟨rfl,rfl⟩:=o9 h7
       simp only [Bool.and_eq_true] at hg
       obtain ⟨g,cs,cur,ro,e1,e2,e3,e4,e5⟩:=a1Q h4
       have es1:=Nat.eq_of_beq_eq_true hes
       subst es1
       have hsl:∃ l a' cap,x'=.slice (some a') (n+1) cap∧K ad.block g=some l∧l.lo≤ad.off∧n+1≤cap∧a'=⟨l.blk,l.at_+(ad.off - l.lo),none⟩:=by
        generalize hz:Value.slice (some ad) (n+1) 1=z at rx
        cases rx with
        | plain hp=>subst hz; simp [V.plain] at hp
        | @slice b g' off len cap es l a' hk hlo hes' hcap hsp hor=>
          cases hz
          cases e1
          have hcap0:cap≠0:=by omega
          obtain ⟨q1,q2,_⟩:=hor.resolve_left hcap0
          obtain ⟨ab,ao,asp⟩:=a'
          simp only at hsp q1 q2
          obtain hsp:=hsp.resolve_left (by omega)
          subst hsp q1 q2
          exact ⟨l,_,cap,rfl,hk,hlo,hcap,rfl⟩
        | _=>cases hz
       obtain ⟨l,a',cap,rfl,hk,hlo,hcap,rfl⟩:=hsl
       obtain ⟨ws',c1,c2,c3⟩:=a1q S hk hlo e2 e3
       have hws:=c6C ws xs hx
       have hw':ws'=ws:=by
        apply List.ext_getElem?
        intro i
        by_cases hi:i<ws.length
        · have hi':i<ws'.length:=by rw [c1.len]; exact hi
          have r:=c1.at_ i _ _ (List.getElem?_eq_getElem hi') (List.getElem?_eq_getElem hi)
          rw [List.getElem?_eq_getElem hi',List.getElem?_eq_getElem hi]
          have:plain ws[i]=true:=by
           have hm:∀ u,u∈ws→plain u=true:=fun u hu=>by
            rw [hws] at hu
            obtain ⟨y,_,hy⟩:=List.mem_map.1 hu
            rw [← hy]; rfl
           exact hm _ (List.getElem_mem hi)
          rw [r.eq_of_plain this]
        · rw [List.getElem?_eq_none (by rw [c1.len]; omega),List.getElem?_eq_none (by omega)]
       have hlen:xs.length=n+1:=by rw [← c2,hws]; simp
       have key:=h1 l.blk (l.at_+(ad.off - l.lo)) cap (xs.map fun x=>(⟨⟨x⟩⟩:ByteArray)) sep w (fun j x hj=>by
        refine c3 j (.string x) ?_
        rw [hw',hws,List.getElem?_map]
        rw [List.getElem?_map] at hj
        cases hq:xs[j]? with
        | none=>rw [hq] at hj; cases hj
        | some y=>rw [hq] at hj; cases hj; rfl) (S.dom _ _ _ hk) (by
        have:=hg.1; simp at this ⊢; omega) (by simp; omega) (by
        have hj:(xs.map fun x=>(⟨⟨x⟩⟩:ByteArray)).map (fun b=>b.data.toList)=xs:=by rw [List.map_map]; exact List.map_id'' (fun _=>rfl) xs
        rw [hj, ← b2v]
        have:=hg.2; rw [J2] at this; simp at this; omega)
       have hj:(xs.map fun x=>(⟨⟨x⟩⟩:ByteArray)).map (fun b=>b.data.toList)=xs:=by rw [List.map_map]; exact List.map_id'' (fun _=>rfl) xs
       rw [hj, ← b2v] at key
       rw [List.length_map,hlen] at key
       refine key.mono fun e w' ⟨q1,q2⟩=>?_
       refine ⟨_,K,q1,⟨KM.le_refl K,fun _ _ _=>rfl, ?_⟩,.plain rfl⟩
       rw [e5]
       exact a0z S ⟨q2.os,q2.tape,q2.output,q2.size,q2.block⟩
   · cases h
end
end Go.V
end
section
noncomputable section
namespace Go.V
open Go.RowKit (Below)
section
variable {P:Program} {T:Tab} {vs:R3}
theorem b1I {f:Nat} {g:List Value→Option Value}
 (hg:∀ aS9 v,g aS9=some v→L6 (G8 8) aS9=true∧G8 8 v=true∧∀ w,(callFunc f aS9.toArray).run P w=.ok (.value v) w):a0s P T vs f (fun aS9=>M.lift (g aS9)):=by
 refine ⟨fun aS9=>Fr.lift _, ?_⟩
 intro B0 w0 hL hB aS9 s v s' w K as' h S hG F has
 obtain ⟨e1,rfl⟩:=a1H h
 obtain ⟨g1,g2,g3⟩:=hg aS9 v e1
 rw [a1s has g1]
 exact Or.inl ⟨v,w,K,g3 w,Step.same S rfl,L8 8 v g2⟩
end
def a5G (bs:List Value):Option Value:=match bs with
 | [.int .u64 (.ofNat x),.int .u64 (.ofNat y),.int .u64 (.ofNat c)]=>match Nat.ble c 1 with
   | true=>some (.tuple ⟨[.int .u64 (.ofNat (Nat.mod (Nat.add (Nat.add x y) c) 18446744073709551616)),.int .u64 (.ofNat (Nat.div (Nat.add (Nat.add x y) c) 18446744073709551616))]⟩)
   | false=>none
 | _=>none
end Go.V
end
section
namespace Go.Proofs.YtmomonnlmbljoaaGreatDoor
open Go.V Go.RowKit Go.Shelf Go.Proofs
set_option maxRecDepth 100000
variable {mL:Int}
theorem a5E {bs:List Value} {v:Value} (h:a1R bs=some v):L6 (G8 8) bs=true∧G8 8 v=true∧a0t Tryz.prog (K4 mL) 125 bs v:=by
 unfold a1R at h
 split at h
 · rename_i s sub
   cases hb:Nat.blt (F4 s.data.toList) 4294967281 with
   | false=>rw [hb] at h; cases h
   | true=>
     rw [hb] at h
     cases h
     refine ⟨rfl,rfl,fun w hL=>⟨N7 Tryz.func125 (by kernel_rfl) rfl, ?_⟩⟩
     have hs:s.size<4294967281:=by rw [J2] at hb; simpa using hb
     refine (Any.strings_Contains Tryz.lContains s sub mL w hs (hL.cell 3 _ rfl 0 _ rfl)).mono fun e w' hq=>?_
     obtain ⟨rfl,rfl⟩:=hq
     exact ⟨by rw [b3Q],Below.refl _ _⟩
 · cases h
theorem c8G:Builder.Extra Tryz.prog Tryz.lRepeat_ren where
 sizeBuilder:=by kernel_rfl
 liesBuilder:=by kernel_rfl
 t5:=Tryz.underlying5
 a5:=Tryz.isAgg5
 z5:=Tryz.sizeOf5
 v5:=Tryz.zeroValue5
 infoByte:=by kernel_rfl
 cellsByte:=by kernel_rfl
 sizeByte:=by kernel_rfl
 neB5:=by decide
theorem b0t:Builder.Extra Tryz.prog Tryz.lJoin_ren where
 sizeBuilder:=by kernel_rfl
 liesBuilder:=by kernel_rfl
 t5:=Tryz.underlying5
 a5:=Tryz.isAgg5
 z5:=Tryz.sizeOf5
 v5:=Tryz.zeroValue5
 infoByte:=by kernel_rfl
 cellsByte:=by kernel_rfl
 sizeByte:=by kernel_rfl
 neB5:=by decide
theorem b0L {bs:List Value} {v:Value} (h:a3Q bs=some v):L6 (G8 8) bs=true∧G8 8 v=true∧a0t Tryz.prog (K4 mL) 56 bs v:=by
 unfold a3Q at h
 split at h
 · rename_i s c
   cases hb:Nat.blt c 4294967296 && Nat.ble (F4 s.data.toList * c) 4294967296 with
   | false=>rw [hb] at h; cases h
   | true=>
     rw [hb] at h
     cases h
     simp only [Bool.and_eq_true] at hb
     refine ⟨rfl,rfl,fun w hL=>⟨N7 Tryz.func56 (by kernel_rfl) rfl, ?_⟩⟩
     have h1:c<4294967296:=by simpa using hb.1
     have h2:s.size * c≤4294967296:=by
      have:=Nat.le_of_ble_eq_true hb.2
      rw [J2] at this
      simpa using this
     refine (Any.strings_Repeat Tryz.lRepeat c8G s c w (by omega) (by omega)).mono fun e w' hq=>?_
     obtain ⟨rfl,hq⟩:=hq
     exact ⟨by rw [c3O],hq⟩
 · cases h
theorem d5u:a0s Tryz.prog A9 (K4 mL) 96 a4e:=
 b8P (fun _ _=>N7 Tryz.func96 (by kernel_rfl) rfl) (fun a c sep w=>Any.strings_Join_none Tryz.lJoin b0t a c sep w)
  (fun bk o c xs sep w h1 h2 h3 h4 h5=>Any.strings_Join Tryz.lJoin b0t bk o c xs sep w h1 h2 h3 h4 h5)
theorem d2y:a0s Tryz.prog A9 (K4 mL) 163 (fun bs=>M.lift (a5G bs)):=b1I fun bs v h=>by
 unfold a5G at h
 split at h
 · rename_i x y c
   cases hb:Nat.ble c 1 with
   | false=>rw [hb] at h; cases h
   | true=>
     rw [hb] at h
     cases h
     refine ⟨rfl,rfl,fun w=>?_⟩
     have hc:=Nat.le_of_ble_eq_true hb
     have e:(callFunc 163 #[.int .u64 (x:Int),.int .u64 (y:Int),.int .u64 (c:Int)]).run Tryz.prog w =
      .ok (.value (.tuple #[.int .u64 (((x+y+c) % 18446744073709551616:Nat):Int),.int .u64 (((x+y+c) / 18446744073709551616:Nat):Int)])) w:=by
      rw [run_callFunc_extern Tryz.func163 (by kernel_rfl) (by kernel_rfl) (by kernel_rfl) (e:=add64Entry) (by kernel_rfl),run_add64 x y c (by omega) (by omega) (by omega) (by omega)]
      simp only [Result.andThen]
      congr 5 <;> omega
     exact e
 · cases h
noncomputable def F8:Nat→Option (List Value→M Value):=Y6 (Y6 (a1I (a1I e1C 125 a1R) 56 a3Q) 96 a4e) 163 (fun bs=>M.lift (a5G bs))
theorem b9U:Y5 Tryz.prog A9 (K4 mL) F8:=a1w (a1w (a1u (a1u d8i fun _ _ h=>a5E h) fun _ _ h=>b0L h) d5u) d2y
end Go.Proofs.YtmomonnlmbljoaaGreatDoor
end
section
namespace Go.V
theorem b9E (ij:Nat×Nat) (L:List (Nat×Nat)) (F:List X4):G9 (ij::L) F=((match M8 F ij.1 with
 | some x=>match M8 F ij.2 with
   | some y=>a1M x y
   | none=>false
 | none=>false) && G9 L F):=by unfold G9; exact b0v _ _ _
theorem c2U (L L':List (Nat×Nat)) (F:List X4):G9 (G7 L L') F=(G9 L F && G9 L' F):=by
 unfold G9
 rw [I5,a3T,a3T,a3T,List.all_append]
theorem d6l {ops:List Oper} {pj:List Nat} {j:Nat} {y:Oper×X4} {F:List X4} (hy:F[j]?=some y.2):∀ (xs:List (Oper×X4)) (i:Nat) (L:List (Nat×Nat)),
 a5u ops pj j y.1 (xs.map (·.1)) i=some L→(∀ (k:Nat) (x:Oper×X4),xs[k]?=some x→F[i+k]?=some x.2)→a0E ops pj y xs i=G9 L F:=by
 intro xs
 induction xs with
 | nil=>intro i L h _; cases h; rfl
 | cons x xs ih=>
   intro i L h hF
   have h':(match a0j i pj with
    | true=>a5u ops pj j y.1 (xs.map (·.1)) (i+1)
    | false=>match Q5 (O9 x.1) (Q7 ops y.1) && Q5 (O9 x.1) (O9 y.1) && Q5 (O9 y.1) (Q7 ops x.1) with
      | true=>match a5u ops pj j y.1 (xs.map (·.1)) (i+1) with
        | some L=>some ((i,j)::L)
        | none=>none
      | false=>none)=some L:=h
   show (match a0j i pj || free2 ops x y with | true=>a0E ops pj y xs (i+1) | false=>false)=G9 L F
   have hF':∀ (k:Nat) (x:Oper×X4),xs[k]?=some x→F[i+1+k]?=some x.2:=fun k z hz=>by
    have:=hF (k+1) z (by simpa using hz)
    rw [show i+1+k=i+(k+1) by omega]; exact this
   cases hm:a0j i pj with
   | true=>
     rw [hm] at h'
     rw [Bool.true_or]
     exact ih (i+1) L h' hF'
   | false=>
     rw [hm] at h'
     simp only at h'
     split at h'
     · rename_i hst
       split at h'
       · rename_i L' hL'
         cases h'
         have hx:=hF 0 x rfl
         rw [Nat.add_zero] at hx
         have hfr:free2 ops x y=a1M x.2 y.2:=by
          unfold free2 a1M
          simp only [Bool.and_eq_true] at hst
          rw [hst.1.1,hst.1.2,hst.2]
          simp only [Bool.and_true]
         rw [Bool.false_or,hfr,b9E,O7,O7,hx,hy,ih (i+1) L' hL' hF']
         show (match a1M x.2 y.2 with | true=>G9 L' F | false=>false)=(a1M x.2 y.2 && G9 L' F)
         cases a1M x.2 y.2 <;> rfl
       · cases h'
     · cases h'
theorem d4z {ops:List Oper} {F:List X4}:∀ (ys xs:List (Oper×X4)) (ps:List (List Nat)) (n:Nat) (L:List (Nat×Nat)),xs.length=n→(∀ (k:Nat) (x:Oper×X4),(xs ++ ys)[k]?=some x→F[k]?=some x.2) →
 b2s ops (ys.map (·.1)) (xs.map (·.1)) ps n=some L→E9 ops ys xs ps n=G9 L F:=by
 intro ys
 induction ys with
 | nil=>intro xs ps n L _ _ h; cases h; rfl
 | cons y ys ih=>
   intro xs ps n L hn hF h
   have h':(match a0I n y.1.after.toList with
    | true=>match a5u ops (X6 (Z0 ps) y.1.after.toList) n y.1 (xs.map (·.1)) 0 with
      | some L=>match b2s ops (ys.map (·.1)) (G7 (xs.map (·.1)) [y.1]) (G7 ps [X6 (Z0 ps) y.1.after.toList]) (n+1) with
        | some L'=>some (G7 L L')
        | none=>none
      | none=>none
    | false=>none)=some L:=h
   show (match a0I n y.1.after.toList && a0E ops (X6 (Z0 ps) y.1.after.toList) y xs 0 with | true=>E9 ops ys (G7 xs [y]) (G7 ps [X6 (Z0 ps) y.1.after.toList]) (n+1) | false=>false)=G9 L F
   split at h'
   · rename_i he
     split at h'
     · rename_i L1 h1
       split at h'
       · rename_i L2 h2
         cases h'
         have hy:F[n]?=some y.2:=hF n y (by rw [List.getElem?_append_right (by omega),hn]; simp)
         have hp:=d6l hy xs 0 L1 h1 (fun k x hx=>by
          rw [Nat.zero_add]
          exact hF k x (by rw [List.getElem?_append_left (List.getElem?_eq_some_iff.1 hx).1]; exact hx))
         have hi:=ih (G7 xs [y]) (G7 ps [X6 (Z0 ps) y.1.after.toList]) (n+1) L2 (by rw [I5]; simp [hn]) (fun k x hx=>hF k x (by rw [I5] at hx; simpa using hx)) (by
          rw [I5 xs,List.map_append]
          rw [I5 (xs.map _)] at h2
          exact h2)
         rw [he,hp,hi,c2U]
         cases G9 L1 F <;> rfl
       · cases h'
     · cases h'
   · cases h'
theorem G6 {ops:List Oper} {L:List (Nat×Nat)} {n:Nat} (h:b2s ops ops [] [] 0=some L) (hn:F4 ops=n) (F:List X4) (hl:F4 F=n):E9 ops (H9 ops F) [] [] 0=G9 L F:=by
 obtain ⟨h1,h2⟩:=d2w ops F (hl.trans hn.symm)
 exact d4z (H9 ops F) [] [] 0 L rfl (fun k x hx=>h2 k x hx) (by rw [h1]; exact h)
end Go.V
end
section
noncomputable section
namespace Go.V
section
variable (c:Nat) (h:Trie VObj) (r w:List Nat)
end
theorem b4b (k k':IntKind) (n:Int):I7 k (.int k' n)=M.pure (.int k (U6 k n)):=Eq.trans rfl rfl
section
variable (p:Program) (T:Tab)
theorem c9Q (t:TypeId) (x y:Operand) (s s':ByteArray):P7 p T .eql t x y (.string s) (.string s')=M.pure (.bool (beqBytes s.data.toList s'.data.toList)):=Eq.trans rfl rfl
theorem c8Q (t:TypeId) (x y:Operand) (s s':ByteArray):P7 p T .neq t x y (.string s) (.string s')=M.pure (.bool (!(beqBytes s.data.toList s'.data.toList))):=Eq.trans rfl rfl
end
end Go.V
namespace Go.V
theorem U5.cases {α:Type} {b:Bool} {x y:Option (α×S)} {Q:α→S→Prop} (h1:b=true→U5 x Q) (h2:b=false→U5 y Q):U5 (l8 b x y) Q:=by
 cases b with
 | true=>exact h1 rfl
 | false=>exact h2 rfl
theorem U5.done {α:Type} {a:α} {s:S} {Q:α→S→Prop} (h:Q a s):U5 (Option.some (a,s)) Q:=⟨a,s,rfl,h⟩
end Go.V
end
section
noncomputable section
namespace Go.V
theorem ltN (i n:Nat):decide (Int.ofNat i<Int.ofNat n)=Nat.blt i n:=by
 cases h:Nat.blt i n with
 | true=>have:i<n:=by simpa [Nat.blt_eq] using h
         simp only [decide_eq_true_eq,Int.ofNat_eq_natCast]; omega
 | false=>have:¬ i<n:=fun q=>by rw [a2J q] at h; cases h
          simp only [decide_eq_false_iff_not,Int.ofNat_eq_natCast]; omega
theorem leN (i n:Nat):decide (Int.ofNat i≤Int.ofNat n)=Nat.ble i n:=by
 cases h:Nat.ble i n with
 | true=>have:=Nat.le_of_ble_eq_true h
         simp only [decide_eq_true_eq,Int.ofNat_eq_natCast]; omega
 | false=>have:¬ i≤n:=fun q=>by rw [Nat.ble_eq_true_of_le q] at h; cases h
          simp only [decide_eq_false_iff_not,Int.ofNat_eq_natCast]; omega
theorem eqN (i n:Nat):decide (Int.ofNat i=Int.ofNat n)=Nat.beq i n:=by
 cases h:Nat.beq i n with
 | true=>rw [Nat.eq_of_beq_eq_true h]; simp
 | false=>have:i≠n:=fun e=>by rw [e] at h; simp at h
          simp only [decide_eq_false_iff_not,Int.ofNat_eq_natCast]; omega
theorem a5f {k:IntKind} {n:Nat} (h:Nat.blt n (V8 k)=true):U6 k (Int.ofNat n)=Int.ofNat n:=by
 show (match Nat.blt n (V8 k) with | true=>Int.ofNat n | false=>k.wrap (.ofNat n))=_
 rw [h]
section
variable (p:Program) (T:Tab)
def e1J (op:BinOp) (k:IntKind) (n m:Nat) (d:M Value):M Value:=match op with
 | .add=>match Nat.blt (Nat.add n m) (V8 k) with
   | true=>M.pure (.int k (.ofNat (Nat.add n m)))
   | false=>d
 | .sub=>match Nat.ble m n && Nat.blt (Nat.sub n m) (V8 k) with
   | true=>M.pure (.int k (.ofNat (Nat.sub n m)))
   | false=>d
 | .eql=>M.pure (.bool (Nat.beq n m))
 | .neq=>M.pure (.bool (!(Nat.beq n m)))
 | .lss=>M.pure (.bool (Nat.blt n m))
 | .leq=>M.pure (.bool (Nat.ble n m))
 | .gtr=>M.pure (.bool (Nat.blt m n))
 | .geq=>M.pure (.bool (Nat.ble m n))
 | _=>d
theorem d7M (op:BinOp) (t:TypeId) (x y:Operand) (k:IntKind) (n m:Nat):e1J op k n m (P7 p T op t x y (.int k (.ofNat n)) (.int k (.ofNat m)))=P7 p T op t x y (.int k (.ofNat n)) (.int k (.ofNat m)):=by
 cases op with
 | add=>
   show (match Nat.blt (n+m) (V8 k) with | true=>M.pure (Value.int k (.ofNat (n+m))) | false=>_)=_
   cases h:Nat.blt (n+m) (V8 k) with
   | true=>
     rw [b6U,show Int.ofNat n+Int.ofNat m=Int.ofNat (n+m) by simp,a5f h]
   | false=>rfl
 | sub=>
   show (match Nat.ble m n && Nat.blt (n - m) (V8 k) with | true=>M.pure (Value.int k (.ofNat (n - m))) | false=>_)=_
   cases h:Nat.ble m n && Nat.blt (n - m) (V8 k) with
   | true=>
     rw [Bool.and_eq_true] at h
     have h1:=Nat.le_of_ble_eq_true h.1
     rw [d5h,show Int.ofNat n - Int.ofNat m=Int.ofNat (n - m) by simp only [Int.ofNat_eq_natCast]; omega,a5f h.2]
   | false=>rfl
 | eql=>rw [d2T,eqN]; rfl
 | neq=>rw [d3L,eqN]; rfl
 | lss=>rw [d4e,ltN]; rfl
 | leq=>rw [d6m,leN]; rfl
 | gtr=>rw [d5d,ltN]; rfl
 | geq=>rw [d6B,leN]; rfl
 | _=>rfl
def e0V (op:BinOp) (s s':ByteArray) (d:M Value):M Value:=match op with
 | .eql=>M.pure (.bool (beqBytes s.data.toList s'.data.toList))
 | .neq=>M.pure (.bool (!(beqBytes s.data.toList s'.data.toList)))
 | _=>d
theorem d9v (op:BinOp) (t:TypeId) (x y:Operand) (s s':ByteArray):e0V op s s' (P7 p T op t x y (.string s) (.string s'))=P7 p T op t x y (.string s) (.string s'):=by
 cases op with
 | eql=>rw [c9Q]; rfl
 | neq=>rw [c8Q]; rfl
 | _=>rfl
def d3s (op:BinOp) (t:TypeId) (x y:Operand) (a b:Value):M Value:=match a with
 | .int k (.ofNat n)=>match b with
   | .int k' (.ofNat m)=>match a0Z k k' with
     | true=>e1J op k n m (P7 p T op t x y a b)
     | false=>P7 p T op t x y a b
   | _=>P7 p T op t x y a b
 | .string s=>match b with
   | .string s'=>e0V op s s' (P7 p T op t x y a b)
   | _=>P7 p T op t x y a b
 | _=>P7 p T op t x y a b
theorem d7Z (op:BinOp) (t:TypeId) (x y:Operand) (a b:Value):d3s p T op t x y a b=P7 p T op t x y a b:=by
 unfold d3s
 split
 · rename_i k n
   split
   · rename_i k' m
     split
     · rename_i h
       obtain rfl:=a4f h
       exact d7M p T op t x y k n m
     · rfl
   · rfl
 · rename_i s
   split
   · rename_i s'
     exact d9v p T op t x y s s'
   · rfl
 · rfl
end
end Go.V
end
