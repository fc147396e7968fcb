import Derived.Test.YtmomonnlmbljoaaGreatDoorQap
section
noncomputable section
namespace Go.V
def on1 (k:IntKind) (q:Int → Option Value) (bs:List Value):Option Value:=match bs with
 | [.int k' n]=>bcase (a2Y k k') (q n) none
 | _=>none
def on2 (k1 k2:IntKind) (q:Int → Int → Option Value) (bs:List Value):Option Value:=match bs with
 | [.int k1' n,.int k2' m]=>bcase (a2Y k1 k1' && a2Y k2 k2') (q n m) none
 | _=>none
theorem a7m (k:IntKind):a2Y k k=true:=by cases k <;> rfl
theorem b3Z {k:IntKind} {q:Int → Option Value} {bs:List Value} {v:Value} (h:on1 k q bs=some v):∃ n,bs=[.int k n] ∧ q n=some v:=by
 unfold on1 at h
 split at h
 · rename_i k' n
   cases hk:a2Y k k' with
   | true=>rw [hk] at h; rw [a6t hk]; exact ⟨n,rfl,h⟩
   | false=>rw [hk] at h; cases h
 · cases h
theorem c7x {k1 k2:IntKind} {q:Int → Int → Option Value} {bs:List Value} {v:Value} (h:on2 k1 k2 q bs=some v):∃ n m,bs=[.int k1 n,.int k2 m] ∧ q n m=some v:=by
 unfold on2 at h
 split at h
 · rename_i k1' n k2' m
   cases hk:a2Y k1 k1' && a2Y k2 k2' with
   | true=>
     rw [hk] at h
     rw [Bool.and_eq_true] at hk
     rw [a6t hk.1,a6t hk.2]; exact ⟨n,m,rfl,h⟩
   | false=>rw [hk] at h; cases h
 · cases h
theorem b5T (k:IntKind) (q:Int → Option Value) (n:Int):on1 k q [.int k n]=q n:=by
 show bcase (a2Y k k) (q n) none=_
 rw [a7m]; rfl
theorem d0z (k1 k2:IntKind) (q:Int → Int → Option Value) (n m:Int):on2 k1 k2 q [.int k1 n,.int k2 m]=q n m:=by
 show bcase (a2Y k1 k1 && a2Y k2 k2) (q n m) none=_
 rw [a7m,a7m]; rfl
def X1 (k:IntKind) (q:Int → Option Value):List Value → M Value:=fun bs=>M.lift (on1 k q bs)
def X2 (k1 k2:IntKind) (q:Int → Int → Option Value):List Value → M Value:=fun bs=>M.lift (on2 k1 k2 q bs)
theorem a2P {sh:a2i} {f:Nat} {k:IntKind} {q:Int → Option Value} (h:sh.get f=some (arX (X1 k q))) (m:Nat) {n:Int} {v:Value} (e:q n=some v):J9 sh (m + 1) f [.int k n]=M.pure (.ret v):=
 a5P sh m f _ h (by rw [b5T]; exact e)
theorem a0D {sh:a2i} {f:Nat} {k1 k2:IntKind} {q:Int → Int → Option Value} (h:sh.get f=some (arX (X2 k1 k2 q))) (m:Nat) {n n':Int} {v:Value} (e:q n n'=some v):J9 sh (m + 1) f [.int k1 n,.int k2 n']=M.pure (.ret v):=
 a5P sh m f _ h (by rw [d0z]; exact e)
def a3k (m:M CR) (v:Value):Prop:=∀ c h r w,I6 (go m ⟨c,h,r,w⟩) fun x s2=>x=.ret v ∧ ∀ i,i < c → s2.h.get i=h.get i
theorem a3k.pure {m:M CR} {v:Value} (h:m=M.pure (.ret v)):a3k m v:=fun c hh r w=>⟨.ret v,_,by rw [h]; rfl,rfl,fun _ _=>rfl⟩
section
variable {P:Program} {T:Tab} {vs:a4i} {ext:Nat → Option (List Value → M Value)} {N:Nat} {sh:a2i}
theorem a6v (hT:TabOk P T) (hM:P.follows .mixedOrders=true) (L:Shelf' P T vs N ext sh) {f:Nat} {fn:Func} {cd:Code} (hPf:P.funcs[f]?=some fn) (hnum:(fn.name == "runtime.NumGoroutine")=false) (hb:fn.body=some cd)
 {k:IntKind} {q:Int → Option Value} (h:∀ n v,q n=some v → a0y 8 v=true ∧ ∃ m,a3k (J9 sh m f [.int k n]) v):a0f P T vs f (X1 k q):=
 a8E hT hM L.e L.s hPf hnum hb fun bs v hq=>by
  obtain ⟨n,rfl,e⟩:=b3Z hq
  obtain ⟨h1,m,h2⟩:=h n v e
  exact ⟨h1,fun c h r w=>⟨m,h2 c h r w⟩⟩
theorem c3M (hT:TabOk P T) (hM:P.follows .mixedOrders=true) (L:Shelf' P T vs N ext sh) {f:Nat} {fn:Func} {cd:Code} (hPf:P.funcs[f]?=some fn) (hnum:(fn.name == "runtime.NumGoroutine")=false) (hb:fn.body=some cd)
 {k1 k2:IntKind} {q:Int → Int → Option Value} (h:∀ n n' v,q n n'=some v → a0y 8 v=true ∧ ∃ m,a3k (J9 sh m f [.int k1 n,.int k2 n']) v):a0f P T vs f (X2 k1 k2 q):=
 a8E hT hM L.e L.s hPf hnum hb fun bs v hq=>by
  obtain ⟨n,n',rfl,e⟩:=c7x hq
  obtain ⟨h1,m,h2⟩:=h n n' v e
  exact ⟨h1,fun c h r w=>⟨m,h2 c h r w⟩⟩
theorem b1C {f:Nat} {k:IntKind} {q:Int → Option Value} (h:∀ n v,q n=some v → a0y 8 v=true ∧ a7d P vs f [.int k n] v):a0f P T vs f (X1 k q):=
 a6q fun bs v hq=>by
  obtain ⟨n,rfl,e⟩:=b3Z hq
  exact ⟨rfl,h n v e⟩
end
end Go.V
namespace Go.V
section
variable {P:Program} {T:Tab} {vs:a4i}
theorem c7l {f:Nat} {k:IntKind} {q1 q2 q:Int → Option Value} (h1:a0f P T vs f (X1 k q1)) (h2:a0f P T vs f (X1 k q2)) (h:∀ z v,q z=some v → q1 z=some v ∨ q2 z=some v):a0f P T vs f (X1 k q):=by
 refine ⟨fun bs=>Fr.lift _, ?_⟩
 intro B0 w0 hL hB bs s v s' w K bs' hg
 obtain ⟨e1,rfl⟩:=a6g hg
 obtain ⟨z,rfl,e⟩:=b3Z e1
 rcases h z v e with e2 | e2
 · exact h1.2 B0 w0 hL hB _ s' v s' w K bs' (by show M.lift (on1 k q1 _) s'=_; rw [b5T,e2]; rfl)
 · exact h2.2 B0 w0 hL hB _ s' v s' w K bs' (by show M.lift (on1 k q2 _) s'=_; rw [b5T,e2]; rfl)
noncomputable def b1m (r:Option (CR × S)) (m:Nat):Bool:=match r with
 | some x=>match x.1 with
   | .ret v=>match v with
     | .int k n=>a2Y k .i64 && (match n with
       | .ofNat j=>Nat.beq j m
       | .negSucc _=>false)
     | _=>false
   | .pan _=>false
 | none=>false
theorem b0s {r:Option (CR × S)} {m:Nat} (h:b1m r m=true):∃ s,r=some (.ret (.int .i64 (.ofNat m)),s):=by
 unfold b1m at h
 split at h
 · rename_i x
   split at h
   · rename_i v hv
     split at h
     · rename_i k n
       rw [Bool.and_eq_true] at h
       split at h
       · rename_i j
         obtain ⟨y,s⟩:=x
         obtain rfl:y=_:=hv
         obtain rfl:=a6t h.1
         obtain rfl:=Nat.eq_of_beq_eq_true h.2
         exact ⟨s,rfl⟩
       · cases h.2
     · cases h
   · cases h
 · cases h
end
end Go.V
end
section
noncomputable section
namespace Go.V
def P6 (c:Nat) (h:Trie VObj) (v:Value) (vs:List Value):Prop:=∃ a e,v=.slice a vs.length e ∧
 (vs=[] ∨ ∃ b o g cs cur ro,a=some ⟨b,o,some g⟩ ∧ e=1 ∧ b < c ∧ h.get b=some (.cells cs cur ro) ∧ a0w g (a3l cs o) vs.length=some vs)
theorem c7w {g:Nat}:∀ {cs:List (Value × Nat)} {n:Nat} {vs:List Value},a0w g cs n=some vs → ∀ (i:Nat) (x:Value),vs[i]?=some x → a0w g (a3l cs i) 1=some [x]:=by
 intro cs
 induction cs with
 | nil=>
   intro n vs h i x hx
   cases n with
   | zero=>cases h; simp at hx
   | succ n=>cases h
 | cons q cs ih=>
   intro n vs h i x hx
   cases n with
   | zero=>cases h; simp at hx
   | succ n=>
     obtain ⟨v,st⟩:=q
     rw [J6] at h
     split at h
     · rename_i hb
       split at h
       · rename_i vs' hvs
         cases h
         cases i with
         | zero=>
           obtain rfl:v=x:=by simpa using hx
           rw [O6,J6,hb,J7]
         | succ i=>exact ih hvs i x (by simpa using hx)
       · cases h
     · cases h
theorem P6.get {c:Nat} {h:Trie VObj} {v:Value} {vs:List Value} (H:P6 c h v vs) {i:Nat} {x:Value} (hx:vs[i]?=some x) :
 ∃ b o g cs cur ro,v=.slice (some ⟨b,o,some g⟩) vs.length 1 ∧ b < c ∧ h.get b=some (.cells cs cur ro) ∧ a0w g (a3l cs (o + i)) 1=some [x]:=by
 obtain ⟨a,e,rfl,hor⟩:=H
 rcases hor with rfl | ⟨b,o,g,cs,cur,ro,rfl,rfl,h1,h2,h3⟩
 · simp at hx
 · exact ⟨b,o,g,cs,cur,ro,rfl,h1,h2,by rw [c1w]; exact c7w h3 i x hx⟩
theorem P6.read {c c':Nat} {h h':Trie VObj} {v:Value} {vs:List Value} (H:P6 c h v vs) (hc:c ≤ c') (hh:∀ b,b < c → h'.get b=h.get b) {i:Nat} {x:Value} (hx:vs[i]?=some x) :
 ∃ p b,b < c ∧ a5I 1 v (.int .i64 (.ofNat i))=M.pure p ∧ ∀ r w,go (K5 p) ⟨c',h',r,w⟩=some (x,⟨c',h',b :: r,w⟩):=by
 obtain ⟨b,o,g,cs,cur,ro,rfl,h1,h2,h3⟩:=H.get hx
 have hlt:i < vs.length:=(List.getElem?_eq_some_iff.1 hx).1
 refine ⟨.pointer (some ⟨b,o + i * 1,some g⟩),b,h1,a7u 1 i vs.length .i64 b o (some g) hlt (by decide),fun r w=>?_⟩
 rw [M9,I5 (by omega),hh b h1,h2,K7,Nat.mul_one,h3]
 rfl
theorem P6.len {c:Nat} {h:Trie VObj} {v:Value} {vs:List Value} (H:P6 c h v vs):a4q v=M.pure (.int .i64 (.ofNat vs.length)):=by
 obtain ⟨a,e,rfl,_⟩:=H
 exact a6m _ _ _
theorem P6.mono {c c':Nat} {h h':Trie VObj} {v:Value} {vs:List Value} (H:P6 c h v vs) (hc:c ≤ c') (hh:∀ b,b < c → h'.get b=h.get b):P6 c' h' v vs:=by
 obtain ⟨a,e,rfl,hor⟩:=H
 refine ⟨a,e,rfl, ?_⟩
 rcases hor with h0 | ⟨b,o,g,cs,cur,ro,h1,h2,h3,h4,h5⟩
 · exact Or.inl h0
 · exact Or.inr ⟨b,o,g,cs,cur,ro,h1,h2,by omega,by rw [hh b h3]; exact h4,h5⟩
def b9M (v:Value):M (List Value):=M.guard (b2s v) (a8W 1 v)
theorem Fr.rdSl (v:Value):Fr (b9M v):=Fr.guard _ (Fr.source _ _)
theorem c2Y {v:Value} {s s':S} {vs:List Value} (h:b9M v s=some (vs,s')):P6 s.c s.h v vs ∧ s'.c=s.c ∧ s'.h=s.h:=by
 obtain ⟨h1,h2⟩:=R4 h
 cases v with
 | slice a n e=>
   have h3:(match a with
    | none=>M.guard (Nat.beq n 0) <| M.pure []
    | some a=>match n with
      | 0=>M.pure []
      | len + 1=>M.guard (Nat.beq e 1) <| loadN a ((len + 1) * 1)) s=some (vs,s'):=h2
   cases a with
   | none=>
     obtain ⟨q1,q2⟩:=R4 h3
     obtain ⟨rfl,rfl⟩:=J3 q2
     obtain rfl:=Nat.eq_of_beq_eq_true q1
     exact ⟨⟨none,e,rfl,Or.inl rfl⟩,rfl,rfl⟩
   | some a=>
     cases n with
     | zero=>
       obtain ⟨rfl,rfl⟩:=J3 h3
       exact ⟨⟨some a,e,rfl,Or.inl rfl⟩,rfl,rfl⟩
     | succ n=>
       obtain ⟨q1,q2⟩:=R4 h3
       have hb:a.block < s.c:=by
        obtain ⟨g,h5,h6⟩:=U4 q2
        obtain ⟨o,s1,h7,_⟩:=M8 h6
        exact (b1e h7).1
       obtain ⟨g,cs,cur,ro,e1,e2,e3,e4,e5⟩:=a8n q2
       obtain rfl:=Nat.eq_of_beq_eq_true q1
       rw [Nat.mul_one, ← a6h] at e3
       have hl:vs.length=n + 1:=(a6T g _ _ _ e3).1
       obtain ⟨b,off,sp⟩:=a
       obtain rfl:sp=some g:=e1
       refine ⟨⟨_, 1,by rw [hl],Or.inr ⟨b,off,g,cs,cur,ro,rfl,rfl,hb,e2,by rw [hl]; exact e3⟩⟩,e4,e5⟩
 | _=>cases h1
def b1q (k:IntKind) (vs:List Value):Option (List Int):=List.rec (motive:=fun _=>Option (List Int)) (some []) (fun v _ ih=>match v with
 | .int k' n=>match a2Y k k' with
   | true=>match ih with
     | some l=>some (n :: l)
     | none=>none
   | false=>none
 | _=>none) vs
theorem c0s {k:IntKind}:∀ {vs:List Value} {l:List Int},b1q k vs=some l → vs=l.map (fun n=>Value.int k n):=by
 intro vs
 induction vs with
 | nil=>intro l h; cases h; rfl
 | cons v vs ih=>
   intro l h
   cases v with
   | int k' n=>
     have h':(match a2Y k k' with
      | true=>match b1q k vs with
        | some l=>some (n :: l)
        | none=>none
      | false=>none)=some l:=h
     split at h'
     · rename_i hk
       split at h'
       · rename_i l' hl
         cases h'
         rw [List.map_cons, ← ih hl,a6t hk]
       · cases h'
     · cases h'
   | _=>cases h
end Go.V
namespace Go.V
theorem c3m {c c':Nat} {h h':Trie VObj} {v:Value} {vs:List Value} (H:P6 c h v vs) (hc:c ≤ c') (hh:∀ b,b < c → h'.get b=h.get b) :
 ∃ q:List Nat → List Nat, ∀ r w,go (b9M v) ⟨c',h',r,w⟩=some (vs,⟨c',h',q r,w⟩):=by
 obtain ⟨a,e,rfl,hor⟩:=H
 rcases hor with rfl | ⟨b,o,g,cs,cur,ro,rfl,rfl,h1,h2,h3⟩
 · refine ⟨id,fun r w=>?_⟩
   cases a <;> rfl
 · cases vs with
   | nil=>exact ⟨id,fun r w=>rfl⟩
   | cons x vs=>
     refine ⟨fun r=>b :: r,fun r w=>?_⟩
     show go (M.guard (Nat.beq 1 1) (loadN ⟨b,o,some g⟩ ((vs.length + 1) * 1))) _=_
     rw [j4,Q8,a6N,I5 (by omega),hh b h1,h2,K7,Nat.mul_one]
     rw [List.length_cons] at h3
     rw [h3]
     rfl
theorem c2x (k:IntKind) (l:List Int):b1q k (l.map fun n=>Value.int k n)=some l:=by
 induction l with
 | nil=>rfl
 | cons x l ih=>
   show (match a2Y k k with
    | true=>match b1q k (l.map fun n=>Value.int k n) with
      | some l=>some (x :: l)
      | none=>none
    | false=>none)=_
   rw [a7m,ih]
end Go.V
end
section
namespace Go.Proofs.YtmomonnlmbljoaaGreatDoor
open Go.V Go.RowKit Go.Shelf Go.Proofs
set_option maxRecDepth 100000
variable {mL:Int}
theorem b0G (w:World) (k:Nat) (os:Array Obj):Below w.heap.size w (Sort.grow (w.drewN k) os):=
 ⟨rfl,rfl,rfl,by simp [Sort.grow,World.drewN],fun i hi=>by
  show (w.heap ++ os)[i]?=_
  rw [Array.getElem?_append_left hi]⟩
theorem c3I:Tryz.prog.globalNamed "internal/strconv.uint64pow10"=some 2:=by kernel_rfl
theorem b6Q:a8X=Lib.pow10Tab.map fun z=>Value.int .u64 z:=by kernel_rfl
theorem b2F {w:World} (h:LaidV (W9 mL) w):Lib.TabIs Tryz.prog w "internal/strconv.uint64pow10" .u64 Lib.pow10Tab:=by
 obtain ⟨t,fz,e⟩:=h.row 2 a8X rfl (by rw [b6Q]; decide)
 show w.var? Tryz.prog _=_
 unfold World.var?
 rw [c3I]
 show (match w.heap[2]? with | some (.cells cs _ _)=>some cs | _=>none)=_
 rw [e,b6Q]
noncomputable def b1B (bs:List Value):Option Value:=match bs with
 | [.int .i64 n]=>bcase (decide (-9223372036854775808 ≤ n) && decide (n ≤ 9223372036854775807)) (some (.string ⟨⟨Lib.itoa n⟩⟩)) none
 | _=>none
noncomputable def a9R (bs:List Value):Option Value:=match bs with
 | [.int .i64 n,.int .i64 10]=>bcase (decide (-9223372036854775808 ≤ n) && decide (n ≤ 9223372036854775807)) (some (.string ⟨⟨Lib.itoa n⟩⟩)) none
 | _=>none
noncomputable def a5S (bs:List Value):Option Value:=match bs with
 | [.int .u64 (.ofNat u),.int .i64 10]=>bcase (Nat.blt u 18446744073709551616) (some (.string ⟨⟨Lib.decDigits u⟩⟩)) none
 | _=>none
theorem a3d {α:Type} {b:Bool} {x:α} {v:α} (h:bcase b (some x) none=some v):b=true ∧ v=x:=by
 cases b with
 | true=>cases h; exact ⟨rfl,rfl⟩
 | false=>cases h
theorem c3D:a0f Tryz.prog Q6 (W9 mL) 37 (fun bs=>M.lift (b1B bs)):=a6q fun bs v h=>by
 unfold b1B at h
 split at h
 · rename_i n
   obtain ⟨h1,rfl⟩:=a3d h
   simp only [Bool.and_eq_true,decide_eq_true_eq] at h1
   refine ⟨rfl,rfl,fun w hL=>⟨a2d Tryz.func37 (by kernel_rfl) rfl, ?_⟩⟩
   refine (Any.strconv_Itoa Tryz.lItoa n h1.1 h1.2 w (b2F hL)).mono fun e w' hq=>?_
   obtain ⟨rfl,k,os,rfl⟩:=hq
   exact ⟨rfl,b0G w k os⟩
 · cases h
theorem b9X:a0f Tryz.prog Q6 (W9 mL) 95 (fun bs=>M.lift (a9R bs)):=a6q fun bs v h=>by
 unfold a9R at h
 split at h
 · rename_i n
   obtain ⟨h1,rfl⟩:=a3d h
   simp only [Bool.and_eq_true,decide_eq_true_eq] at h1
   refine ⟨rfl,rfl,fun w hL=>⟨a2d Tryz.func95 (by kernel_rfl) rfl, ?_⟩⟩
   refine (Any.strconv_FormatInt_10 Tryz.lFormatInt n h1.1 h1.2 w (b2F hL)).mono fun e w' hq=>?_
   obtain ⟨rfl,k,os,rfl⟩:=hq
   exact ⟨rfl,b0G w k os⟩
 · cases h
theorem b9b:a0f Tryz.prog Q6 (W9 mL) 126 (fun bs=>M.lift (a5S bs)):=a6q fun bs v h=>by
 unfold a5S at h
 split at h
 · rename_i u
   obtain ⟨h1,rfl⟩:=a3d h
   refine ⟨rfl,rfl,fun w hL=>⟨a2d Tryz.func126 (by kernel_rfl) rfl, ?_⟩⟩
   refine (b5i u (by simpa [Nat.blt_eq] using h1) w (b2F hL)).mono fun e w' hq=>?_
   obtain ⟨rfl,k,os,rfl⟩:=hq
   exact ⟨rfl,b0G w k os⟩
 · cases h
end Go.Proofs.YtmomonnlmbljoaaGreatDoor
end
section
namespace Go.Proofs.YtmomonnlmbljoaaGreatDoor
open Go.V Go.RowKit Go.Shelf Go.Proofs
set_option maxRecDepth 1000000
attribute [local congr] a0b Z9 a0A a0B a0M
variable {mL:Int}
noncomputable def a0E:List (Nat × List UInt8 × Nat):=[(0, [117, 110, 114, 101, 97, 99, 104, 97, 98, 108, 101], 0),
 (1, [110, 111, 112], 0),
 (2, [98, 108, 111, 99, 107], 1),
 (3, [108, 111, 111, 112], 1),
 (4, [105, 102], 1),
 (5, [101, 108, 115, 101], 0),
 (11, [101, 110, 100], 0),
 (12, [98, 114], 2),
 (13, [98, 114, 95, 105, 102], 2),
 (14, [98, 114, 95, 116, 97, 98, 108, 101], 3),
 (15, [114, 101, 116, 117, 114, 110], 0),
 (16, [99, 97, 108, 108], 4),
 (17, [99, 97, 108, 108, 95, 105, 110, 100, 105, 114, 101, 99, 116], 5),
 (26, [100, 114, 111, 112], 0),
 (27, [115, 101, 108, 101, 99, 116], 0),
 (28, [115, 101, 108, 101, 99, 116], 6),
 (32, [108, 111, 99, 97, 108, 46, 103, 101, 116], 7),
 (33, [108, 111, 99, 97, 108, 46, 115, 101, 116], 7),
 (34, [108, 111, 99, 97, 108, 46, 116, 101, 101], 7),
 (35, [103, 108, 111, 98, 97, 108, 46, 103, 101, 116], 8),
 (36, [103, 108, 111, 98, 97, 108, 46, 115, 101, 116], 8),
 (37, [116, 97, 98, 108, 101, 46, 103, 101, 116], 9),
 (38, [116, 97, 98, 108, 101, 46, 115, 101, 116], 9),
 (40, [105, 51, 50, 46, 108, 111, 97, 100], 17),
 (41, [105, 54, 52, 46, 108, 111, 97, 100], 17),
 (44, [105, 51, 50, 46, 108, 111, 97, 100, 56, 95, 115], 17),
 (45, [105, 51, 50, 46, 108, 111, 97, 100, 56, 95, 117], 17),
 (46, [105, 51, 50, 46, 108, 111, 97, 100, 49, 54, 95, 115], 17),
 (47, [105, 51, 50, 46, 108, 111, 97, 100, 49, 54, 95, 117], 17),
 (48, [105, 54, 52, 46, 108, 111, 97, 100, 56, 95, 115], 17),
 (49, [105, 54, 52, 46, 108, 111, 97, 100, 56, 95, 117], 17),
 (50, [105, 54, 52, 46, 108, 111, 97, 100, 49, 54, 95, 115], 17),
 (51, [105, 54, 52, 46, 108, 111, 97, 100, 49, 54, 95, 117], 17),
 (52, [105, 54, 52, 46, 108, 111, 97, 100, 51, 50, 95, 115], 17),
 (53, [105, 54, 52, 46, 108, 111, 97, 100, 51, 50, 95, 117], 17),
 (54, [105, 51, 50, 46, 115, 116, 111, 114, 101], 17),
 (55, [105, 54, 52, 46, 115, 116, 111, 114, 101], 17),
 (58, [105, 51, 50, 46, 115, 116, 111, 114, 101, 56], 17),
 (59, [105, 51, 50, 46, 115, 116, 111, 114, 101, 49, 54], 17),
 (60, [105, 54, 52, 46, 115, 116, 111, 114, 101, 56], 17),
 (61, [105, 54, 52, 46, 115, 116, 111, 114, 101, 49, 54], 17),
 (62, [105, 54, 52, 46, 115, 116, 111, 114, 101, 51, 50], 17),
 (63, [109, 101, 109, 111, 114, 121, 46, 115, 105, 122, 101], 13),
 (64, [109, 101, 109, 111, 114, 121, 46, 103, 114, 111, 119], 13),
 (65, [105, 51, 50, 46, 99, 111, 110, 115, 116], 18),
 (66, [105, 54, 52, 46, 99, 111, 110, 115, 116], 19),
 (69, [105, 51, 50, 46, 101, 113, 122], 0),
 (70, [105, 51, 50, 46, 101, 113], 0),
 (71, [105, 51, 50, 46, 110, 101], 0),
 (72, [105, 51, 50, 46, 108, 116, 95, 115], 0),
 (73, [105, 51, 50, 46, 108, 116, 95, 117], 0),
 (74, [105, 51, 50, 46, 103, 116, 95, 115], 0),
 (75, [105, 51, 50, 46, 103, 116, 95, 117], 0),
 (76, [105, 51, 50, 46, 108, 101, 95, 115], 0),
 (77, [105, 51, 50, 46, 108, 101, 95, 117], 0),
 (78, [105, 51, 50, 46, 103, 101, 95, 115], 0),
 (79, [105, 51, 50, 46, 103, 101, 95, 117], 0),
 (80, [105, 54, 52, 46, 101, 113, 122], 0),
 (81, [105, 54, 52, 46, 101, 113], 0),
 (82, [105, 54, 52, 46, 110, 101], 0),
 (83, [105, 54, 52, 46, 108, 116, 95, 115], 0),
 (84, [105, 54, 52, 46, 108, 116, 95, 117], 0),
 (85, [105, 54, 52, 46, 103, 116, 95, 115], 0),
 (86, [105, 54, 52, 46, 103, 116, 95, 117], 0),
 (87, [105, 54, 52, 46, 108, 101, 95, 115], 0),
 (88, [105, 54, 52, 46, 108, 101, 95, 117], 0),
 (89, [105, 54, 52, 46, 103, 101, 95, 115], 0),
 (90, [105, 54, 52, 46, 103, 101, 95, 117], 0),
 (103, [105, 51, 50, 46, 99, 108, 122], 0),
 (104, [105, 51, 50, 46, 99, 116, 122], 0),
 (105, [105, 51, 50, 46, 112, 111, 112, 99, 110, 116], 0),
 (106, [105, 51, 50, 46, 97, 100, 100], 0),
 (107, [105, 51, 50, 46, 115, 117, 98], 0),
 (108, [105, 51, 50, 46, 109, 117, 108], 0),
 (109, [105, 51, 50, 46, 100, 105, 118, 95, 115], 0),
 (110, [105, 51, 50, 46, 100, 105, 118, 95, 117], 0),
 (111, [105, 51, 50, 46, 114, 101, 109, 95, 115], 0),
 (112, [105, 51, 50, 46, 114, 101, 109, 95, 117], 0),
 (113, [105, 51, 50, 46, 97, 110, 100], 0),
 (114, [105, 51, 50, 46, 111, 114], 0),
 (115, [105, 51, 50, 46, 120, 111, 114], 0),
 (116, [105, 51, 50, 46, 115, 104, 108], 0),
 (117, [105, 51, 50, 46, 115, 104, 114, 95, 115], 0),
 (118, [105, 51, 50, 46, 115, 104, 114, 95, 117], 0),
 (119, [105, 51, 50, 46, 114, 111, 116, 108], 0),
 (120, [105, 51, 50, 46, 114, 111, 116, 114], 0),
 (121, [105, 54, 52, 46, 99, 108, 122], 0),
 (122, [105, 54, 52, 46, 99, 116, 122], 0),
 (123, [105, 54, 52, 46, 112, 111, 112, 99, 110, 116], 0),
 (124, [105, 54, 52, 46, 97, 100, 100], 0),
 (125, [105, 54, 52, 46, 115, 117, 98], 0),
 (126, [105, 54, 52, 46, 109, 117, 108], 0),
 (127, [105, 54, 52, 46, 100, 105, 118, 95, 115], 0),
 (128, [105, 54, 52, 46, 100, 105, 118, 95, 117], 0),
 (129, [105, 54, 52, 46, 114, 101, 109, 95, 115], 0),
 (130, [105, 54, 52, 46, 114, 101, 109, 95, 117], 0),
 (131, [105, 54, 52, 46, 97, 110, 100], 0),
 (132, [105, 54, 52, 46, 111, 114], 0),
 (133, [105, 54, 52, 46, 120, 111, 114], 0),
 (134, [105, 54, 52, 46, 115, 104, 108], 0),
 (135, [105, 54, 52, 46, 115, 104, 114, 95, 115], 0),
 (136, [105, 54, 52, 46, 115, 104, 114, 95, 117], 0),
 (137, [105, 54, 52, 46, 114, 111, 116, 108], 0),
 (138, [105, 54, 52, 46, 114, 111, 116, 114], 0),
 (167, [105, 51, 50, 46, 119, 114, 97, 112, 95, 105, 54, 52], 0),
 (172, [105, 54, 52, 46, 101, 120, 116, 101, 110, 100, 95, 105, 51, 50, 95, 115], 0),
 (173, [105, 54, 52, 46, 101, 120, 116, 101, 110, 100, 95, 105, 51, 50, 95, 117], 0),
 (192, [105, 51, 50, 46, 101, 120, 116, 101, 110, 100, 56, 95, 115], 0),
 (193, [105, 51, 50, 46, 101, 120, 116, 101, 110, 100, 49, 54, 95, 115], 0),
 (194, [105, 54, 52, 46, 101, 120, 116, 101, 110, 100, 56, 95, 115], 0),
 (195, [105, 54, 52, 46, 101, 120, 116, 101, 110, 100, 49, 54, 95, 115], 0),
 (196, [105, 54, 52, 46, 101, 120, 116, 101, 110, 100, 51, 50, 95, 115], 0),
 (208, [114, 101, 102, 46, 110, 117, 108, 108], 20),
 (209, [114, 101, 102, 46, 105, 115, 95, 110, 117, 108, 108], 0),
 (210, [114, 101, 102, 46, 102, 117, 110, 99], 4),
 (64520, [109, 101, 109, 111, 114, 121, 46, 105, 110, 105, 116], 15),
 (64521, [100, 97, 116, 97, 46, 100, 114, 111, 112], 16),
 (64522, [109, 101, 109, 111, 114, 121, 46, 99, 111, 112, 121], 14),
 (64523, [109, 101, 109, 111, 114, 121, 46, 102, 105, 108, 108], 13),
 (64524, [116, 97, 98, 108, 101, 46, 105, 110, 105, 116], 11),
 (64525, [101, 108, 101, 109, 46, 100, 114, 111, 112], 12),
 (64526, [116, 97, 98, 108, 101, 46, 99, 111, 112, 121], 10),
 (64527, [116, 97, 98, 108, 101, 46, 103, 114, 111, 119], 9),
 (64528, [116, 97, 98, 108, 101, 46, 115, 105, 122, 101], 9),
 (64529, [116, 97, 98, 108, 101, 46, 102, 105, 108, 108], 9)]
abbrev a5r:=Nat × List UInt8 × Nat
noncomputable def b0i (x:a5r):List Value:=[.int .i64 (.ofNat x.1),.string ⟨⟨x.2.1⟩⟩,.int .i64 (.ofNat x.2.2)]
noncomputable def a4a (l:List a5r):List Value:=List.rec (motive:=fun _=>List Value) [] (fun x _ ih=>.int .i64 (.ofNat x.1) :: .string ⟨⟨x.2.1⟩⟩ :: .int .i64 (.ofNat x.2.2) :: ih) l
noncomputable def c3j (r:Option (CR × S)):Option (Nat × Nat × List Value × Bool):=match r with
 | some x=>match x.1 with
   | .ret v=>match v with
     | .slice a n e=>match a with
       | some a=>match a.spot with
         | some g=>match Nat.beq a.off 0 with
           | true=>match x.2.h.get a.block with
             | some (.cells cs _ ro)=>some (n,e,a2m (·.1) cs,a0N (fun x=>plain x.1 && Nat.ble x.2 g) cs && !ro)
             | _=>none
           | false=>none
         | none=>none
       | none=>none
     | _=>none
   | _=>none
 | none=>none
theorem c3E {r:Option (CR × S)} {n e:Nat} {vs:List Value} (h:c3j r=some (n,e,vs,true)) :
 ∃ b2 g2 s2 cs cur,r=some (.ret (.slice (some ⟨b2, 0,some g2⟩) n e),s2) ∧ s2.h.get b2=some (.cells cs cur false) ∧ a2m (·.1) cs=vs ∧ a0N (fun x=>plain x.1 && Nat.ble x.2 g2) cs=true:=by
 unfold c3j at h
 split at h
 · rename_i x
   split at h
   · rename_i v hv
     split at h
     · rename_i a n' e'
       split at h
       · rename_i a
         split at h
         · rename_i g hg
           split at h
           · rename_i ho
             split at h
             · rename_i cs cur ro hc
               have h':=Option.some.inj h
               simp only [Prod.mk.injEq,Bool.and_eq_true] at h'
               obtain ⟨rfl,rfl,rfl,h4,h5⟩:=h'
               obtain ⟨b,off,sp⟩:=a
               obtain rfl:off=0:=Nat.eq_of_beq_eq_true ho
               obtain rfl:sp=some g:=hg
               obtain rfl:ro=false:=by simpa using h5
               obtain ⟨x1,x2⟩:=x
               obtain rfl:x1=.ret (.slice (some ⟨b, 0,some g⟩) n' e'):=hv
               exact ⟨b,g,x2,cs,cur,rfl,hc,rfl,h4⟩
             · cases h
           · cases h
         · cases h
       · cases h
     · cases h
   · cases h
 · cases h
theorem c4m (mL:Int):c3j (J9 b0C 400 127 [] (Go.V.a5f (W9 mL)))=some (125, 3,a4a a0E,true):=by kernel_rfl
theorem c3N:a0f Tryz.prog Q6 (W9 mL) 127 (a9Z (a4a a0E) 125 3):=by
 obtain ⟨b2,g2,s2,cs,cur,h1,h2,h3,h4⟩:=c3E (c4m mL)
 rw [← h3]
 exact b7M a2E a0O a8N a6e a9E c0d Tryz.func127 (by kernel_rfl) rfl h1 h2 h4
end Go.Proofs.YtmomonnlmbljoaaGreatDoor
end
section
namespace Go.Proofs.YtmomonnlmbljoaaGreatDoor
open Go.V Go.RowKit Go.Shelf Go.Proofs
set_option maxRecDepth 1000000
attribute [local congr] a0b Z9 a0A a0B a0M
variable {mL:Int}
theorem a4o (k:IntKind) (n:Nat) (h:n < I7 k):a1d k (.ofNat n)=.ofNat n:=by
 unfold a1d
 have:Nat.blt n (I7 k)=true:=by simpa [Nat.blt_eq] using h
 simp only [this]
theorem a7X (i:Nat) (h:i < 4294967296):a1d .i64 (Int.ofNat i + Int.ofNat 1)=Int.ofNat (i + 1):=a4o .i64 (i + 1) (by show i + 1 < 9223372036854775808; omega)
theorem a4Z (i n:Nat):decide (Int.ofNat i < Int.ofNat n)=Nat.blt i n:=by
 cases h:Nat.blt i n with
 | true=>have:i < n:=by simpa [Nat.blt_eq] using h
         simp only [decide_eq_true_eq,Int.ofNat_eq_natCast]; omega
 | false=>have:¬ i < n:=fun q=>by rw [I5 q] at h; cases h
          simp only [decide_eq_false_iff_not,Int.ofNat_eq_natCast]; omega
noncomputable def a0X (n:Int):List a5r → Option a5r
 | []=>none
 | r :: l=>bcase (decide (Int.ofNat r.1=n)) (some r) (a0X n l)
noncomputable def b5w:List Value:=[.int .i64 (.ofNat 0),.string ⟨⟨[]⟩⟩,.int .i64 (.ofNat 0)]
noncomputable def a7n (o:Option a5r):Value:=match o with
 | some r=>.tuple ⟨[.agg ⟨b0i r⟩,.bool true]⟩
 | none=>.tuple ⟨[.agg ⟨b5w⟩,.bool false]⟩
theorem c1Q (rows:List a5r):∀ (i:Nat),a3l (a2m (fun v=>(v, 0)) (a4a rows)) (i * 3)=a2m (fun v=>(v, 0)) (a4a (rows.drop i)):=by
 induction rows with
 | nil=>intro i; rw [a6h]; simp [a4a,a2m]
 | cons r l ih=>
   intro i
   cases i with
   | zero=>rw [Nat.zero_mul,O6]; rfl
   | succ i=>rw [show (i + 1) * 3=i * 3 + 1 + 1 + 1 by omega]; exact ih i
theorem c3w (N:Nat) (call:j5) (b0 b1 len:Nat) (n:Int) (rows:List a5r) (hlen:len=rows.length) (hsm:rows.length < 4294967296) (x0 x1 x2:Value) (c:Nat) (h:Trie VObj) (hb0:b0 < c) (hb1:b1 < c)
 (h0:h.get b0=some (.cells [(x0, 0),(x1, 0),(x2, 0)] 0 false)) (h1:h.get b1=some (.cells (a2m (fun v=>(v, 0)) (a4a rows)) 0 false)) :
 ∀ (l:List a5r) (i k:Nat) (g0 g1 g2 g3 g4 g5 g6 g7 g8 g9 g10 g11 g12 g13 g14 g16 g17:Value) (r w:List Nat),rows.drop i=l → l.length < k →
 I6 (go (a4d (b5C G8 N call (.slice (some ⟨b1, 0,some 0⟩) len 3) (.int .i64 n) (.pointer (some ⟨b0, 0,some 0⟩))) k [g0,g1,g2,g3,g4,g5,g6,g7,g8,g9,g10,g11,g12,g13,g14,.bool false,g16,g17,.int .i64 (.ofNat i)]) ⟨c,h,r,w⟩)
  fun x s=>s.c=c ∧ match a0X n l with
   | some q=>x.1=.ret ∧ d9 x.2 15=.bool true ∧ s.h=upd h b0 (.cells [(.int .i64 (.ofNat q.1), 0),(.string ⟨⟨q.2.1⟩⟩, 0),(.int .i64 (.ofNat q.2.2), 0)] 0 false)
   | none=>x.1=.exit 0 ∧ s.h=h:=by
 intro l
 induction l with
 | nil=>
   intro i k g0 g1 g2 g3 g4 g5 g6 g7 g8 g9 g10 g11 g12 g13 g14 g16 g17 r w hd hk
   obtain ⟨k,rfl⟩:∃ m,k=m + 1:=⟨k - 1,by simp at hk; omega⟩
   have hi:Nat.blt i len=false:=by
    have:rows.length ≤ i:=by simpa [List.drop_eq_nil_iff] using hd
    cases q:Nat.blt i len with
    | false=>rfl
    | true=>have:i < len:=by simpa [Nat.blt_eq] using q
            omega
   simp (config:={ maxSteps:=10000000 }) (disch:=first | assumption | omega | (simp only [q9,C8,G7,F7,l8,D6,q8,F6,F3,Bool.not_false,Bool.not_true,Bool.and_true,Bool.true_and,Bool.and_self,r9,D5,Nat.zero_add,Nat.reduceAdd,j4,F8,Nat.reduceBEq,G9,H6,E5,j6,A8,l7,l6,l9,C9,j4,F4,G6,G5,F9,H8,H9,D7,z8,D9,w9,o8,o9,F5,D8,I7,IntKind.bits,E9,A9,o7] <;> omega) | assumption) only [a3B,c1k,c1g,b9V,c0l,b5C,a4Z,hi,bn,U6,I8,M0,J4,l_0,l_s,P5,a6z,V.d9Z,a2l,a2R,a6m]
   exact I6.done ⟨rfl,rfl,rfl⟩
 | cons q l ih=>
   intro i k g0 g1 g2 g3 g4 g5 g6 g7 g8 g9 g10 g11 g12 g13 g14 g16 g17 r w hd hk
   obtain ⟨k,rfl⟩:∃ m,k=m + 1:=⟨k - 1,by simp at hk; omega⟩
   have hil:i < len:=by
    have:=congrArg List.length hd; simp at this; omega
   have hi:Nat.blt i len=true:=I5 hil
   have hd':rows.drop (i + 1)=l:=by
    have:=congrArg List.tail hd; simpa using this
   have hdr:a3l (a2m (fun v=>(v, 0)) (a4a rows)) (i * 3)=(.int .i64 (.ofNat q.1), 0) :: (.string ⟨⟨q.2.1⟩⟩, 0) :: (.int .i64 (.ofNat q.2.2), 0) :: a2m (fun v=>(v, 0)) (a4a l):=by rw [c1Q,hd]; rfl
   have hinc:=a7X i (by omega)
   simp (config:={ maxSteps:=10000000 }) (disch:=first | assumption | omega | (simp only [q9,C8,G7,F7,l8,D6,q8,F6,F3,Bool.not_false,Bool.not_true,Bool.and_true,Bool.true_and,Bool.and_self,r9,D5,Nat.zero_add,Nat.reduceAdd,j4,F8,Nat.reduceBEq,G9,H6,E5,j6,A8,l7,l6,l9,C9,j4,F4,G6,G5,F9,H8,H9,D7,z8,D9,w9,o8,o9,F5,D8,I7,IntKind.bits,E9,A9,o7] <;> omega) | assumption) only [a3B,c1k,c1g,b9V,c0l,b5C,a4Z,hi,hdr,h1,bn,U6,K6,I8,M0,a4b,K4,l_0,l_s,P5,V.d9Z,Q7,a2l,a2R,Q0,a6m,a7u,C9,M9,P8,a0j,K7,N9,I5,J6,J7,Nat.zero_add,Nat.add_zero]
   rw [b8Q]
   refine I6.cases (fun hb=>?_) (fun hb=>?_)
   · simp (config:={ maxSteps:=10000000 }) (disch:=first | assumption | omega | (simp only [q9,C8,G7,F7,l8,D6,q8,F6,F3,Bool.not_false,Bool.not_true,Bool.and_true,Bool.true_and,Bool.and_self,r9,D5,Nat.zero_add,Nat.reduceAdd,j4,F8,Nat.reduceBEq,G9,H6,E5,j6,A8,l7,l6,l9,C9,j4,F4,G6,G5,F9,H8,H9,D7,z8,D9,w9,o8,o9,F5,D8,I7,IntKind.bits,E9,A9,o7] <;> omega) | assumption) only [h0,I8,M0,a9s,N9,X5,U8,O8,P9]
     refine I6.done ⟨rfl, ?_⟩
     have e:a0X n (q :: l)=some q:=by unfold a0X; rw [hb]; rfl
     rw [e]
     exact ⟨rfl,rfl,rfl⟩
   · simp (config:={ maxSteps:=10000000 }) (disch:=first | assumption | omega | (simp only [q9,C8,G7,F7,l8,D6,q8,F6,F3,Bool.not_false,Bool.not_true,Bool.and_true,Bool.true_and,Bool.and_self,r9,D5,Nat.zero_add,Nat.reduceAdd,j4,F8,Nat.reduceBEq,G9,H6,E5,j6,A8,l7,l6,l9,C9,j4,F4,G6,G5,F9,H8,H9,D7,z8,D9,w9,o8,o9,F5,D8,I7,IntKind.bits,E9,A9,o7] <;> omega) | assumption) only [hinc,I8,L9]
     have e:a0X n (q :: l)=a0X n l:=by
      show bcase (decide (Int.ofNat q.1=n)) (some q) (a0X n l)=_
      rw [hb]; rfl
     rw [e]
     exact ih (i + 1) k _ _ _ _ _ _ _ _ _ _ _ _ _ _ _ _ _ _ _ hd' (by simp at hk; omega)
theorem t97 (N:Nat) (hN:1000 < N) (call:j5) (hc:∀ c h r w,go (call 127 []) ⟨c,h,r,w⟩=some (.ret (.slice (some ⟨c, 0,some 0⟩) 125 3),⟨c + 1,upd h c (.cells (a2m (fun v=>(v, 0)) (a4a a0E)) 0 false),r,c :: w⟩)) (n:Int) (c:Nat) (h:Trie VObj) (r w:List Nat) :
 I6 (go (b8t G8 N call (.int .i64 n)) ⟨c,h,r,w⟩) fun x s=>x=.ret (a7n (a0X n a0E)) ∧ ∀ i,i < c → s.h.get i=h.get i:=by
 simp (config:={ maxSteps:=10000000 }) (disch:=first | assumption | omega | (simp only [q9,C8,G7,F7,l8,D6,q8,F6,F3,Bool.not_false,Bool.not_true,Bool.and_true,Bool.true_and,Bool.and_self,r9,D5,Nat.zero_add,Nat.reduceAdd,j4,F8,Nat.reduceBEq,G9,H6,E5,j6,A8,l7,l6,l9,C9,j4,F4,G6,G5,F9,H8,H9,D7,z8,D9,w9,o8,o9,F5,D8,I7,IntKind.bits,E9,A9,o7] <;> omega) | assumption) only [b8t,c5H,hc,U6,a0d,V6,a2F,K6,I8,J8,a9h,V.d9Z,P7,a7x,U9,a0Z,K9,N8]
 refine I6.bindS (c3w N call c (c + 1) 125 n a0E rfl (by decide) _ _ _ (c + 1 + 1) _ (by omega) (by omega) (by rw [E8 (by omega),I9]) (by rw [I9]) a0E 0 N _ _ _ _ _ _ _ _ _ _ _ _ _ _ _ _ _ _ _ rfl (by show 125 < N; omega)) fun x s hq=>?_
 obtain ⟨x1,x2⟩:=x
 obtain ⟨c',h',r',w'⟩:=s
 obtain ⟨rfl,hq⟩:=hq
 cases hf:a0X n a0E with
 | none=>
   rw [hf] at hq
   obtain ⟨rfl,rfl⟩:=hq
   simp (config:={ maxSteps:=10000000 }) (disch:=first | assumption | omega | (simp only [q9,C8,G7,F7,l8,D6,q8,F6,F3,Bool.not_false,Bool.not_true,Bool.and_true,Bool.true_and,Bool.and_self,r9,D5,Nat.zero_add,Nat.reduceAdd,j4,F8,Nat.reduceBEq,G9,H6,E5,j6,A8,l7,l6,l9,C9,j4,F4,G6,G5,F9,H8,H9,D7,z8,D9,w9,o8,o9,F5,D8,I7,IntKind.bits,E9,A9,o7] <;> omega) | assumption) only [K6,I8,M0,a6N,K4,a6z,C9,a0j,K7,N9,X5,I5,I9,E8,O6,J6,J7,U8,O8,P9,j4]
   refine I6.done ⟨rfl,fun i hi=>?_⟩
   simp (config:={ maxSteps:=10000000 }) (disch:=first | assumption | omega | (simp only [q9,C8,G7,F7,l8,D6,q8,F6,F3,Bool.not_false,Bool.not_true,Bool.and_true,Bool.true_and,Bool.and_self,r9,D5,Nat.zero_add,Nat.reduceAdd,j4,F8,Nat.reduceBEq,G9,H6,E5,j6,A8,l7,l6,l9,C9,j4,F4,G6,G5,F9,H8,H9,D7,z8,D9,w9,o8,o9,F5,D8,I7,IntKind.bits,E9,A9,o7] <;> omega) | assumption) only [E8]
 | some q=>
   rw [hf] at hq
   obtain ⟨rfl,e15,rfl⟩:=hq
   simp only at e15
   simp (config:={ maxSteps:=10000000 }) (disch:=first | assumption | omega | (simp only [q9,C8,G7,F7,l8,D6,q8,F6,F3,Bool.not_false,Bool.not_true,Bool.and_true,Bool.true_and,Bool.and_self,r9,D5,Nat.zero_add,Nat.reduceAdd,j4,F8,Nat.reduceBEq,G9,H6,E5,j6,A8,l7,l6,l9,C9,j4,F4,G6,G5,F9,H8,H9,D7,z8,D9,w9,o8,o9,F5,D8,I7,IntKind.bits,E9,A9,o7] <;> omega) | assumption) only [K6,I8,M0,a6N,a9s,K7,N9,I5,I9,O6,J6,J7,e15]
   refine I6.done ⟨rfl,fun i hi=>?_⟩
   simp (config:={ maxSteps:=10000000 }) (disch:=first | assumption | omega | (simp only [q9,C8,G7,F7,l8,D6,q8,F6,F3,Bool.not_false,Bool.not_true,Bool.and_true,Bool.true_and,Bool.and_self,r9,D5,Nat.zero_add,Nat.reduceAdd,j4,F8,Nat.reduceBEq,G9,H6,E5,j6,A8,l7,l6,l9,C9,j4,F4,G6,G5,F9,H8,H9,D7,z8,D9,w9,o8,o9,F5,D8,I7,IntKind.bits,E9,A9,o7] <;> omega) | assumption) only [E8]
end Go.Proofs.YtmomonnlmbljoaaGreatDoor
end
section
namespace Go.Proofs.YtmomonnlmbljoaaGreatDoor
open Go.V Go.RowKit Go.Shelf Go.Proofs
set_option maxRecDepth 1000000
attribute [local congr] a0b Z9 a0A a0B a0M
variable {mL:Int}
def idxB (a:Int):Bool:=decide (0 ≤ a) && decide (a < 4294967296)
def a2X (a:Int):Bool:=decide (1 ≤ a) && decide (a ≤ 4)
theorem t86 (N:Nat) (call:j5) (a:Int):b6x G8 N call (.int .i64 a)=M.pure (.ret (.bool (idxB a))):=by
 simp only [b6x,bn,U6,a0d,a5g,a3n,a4k,a4m,l_0,l_s,a5G,L9,V.d9Z,a2l,a6H]
 rfl
theorem t59 (N:Nat) (call:j5) (a:Int):b7T G8 N call (.int .i64 a)=M.pure (.ret (.bool (idxB a))):=by
 simp only [b7T,bn,U6,a0d,a5g,a3n,a4k,a4m,l_0,l_s,a5G,L9,V.d9Z,a2l,a6H]
 rfl
theorem t88 (N:Nat) (call:j5) (a:Int):b6o G8 N call (.int .i64 a)=M.pure (.ret (.bool (a2X a))):=by
 simp only [b6o,bn,U6,a0d,a5g,a3n,a4k,a4m,l_0,l_s,a5G,L9,V.d9Z,a8d,a6H]
 rfl
theorem t61 (N:Nat) (call:j5) (a:Int):b7P G8 N call (.int .i64 a)=M.pure (.ret (.bool (a2X a))):=by
 simp only [b7P,bn,U6,a0d,a5g,a3n,a4k,a4m,l_0,l_s,a5G,L9,V.d9Z,a8d,a6H]
 rfl
theorem t54 (N:Nat) (call:j5) (a:Int):b6M G8 N call (.int .i64 a)=M.pure (.ret (.bool (a2X a))):=by
 simp only [b6M,bn,U6,a0d,a5g,a3n,a4k,a4m,l_0,l_s,a5G,L9,V.d9Z,a8d,a6H]
 rfl
noncomputable def a2k (a:Int):List UInt8:=bcase (decide (a=1)) [105, 51, 50] (bcase (decide (a=2)) [105, 54, 52] (bcase (decide (a=3)) [102, 117, 110, 99, 114, 101, 102] (bcase (decide (a=4)) [101, 120, 116, 101, 114, 110, 114, 101, 102] [])))
theorem t40 (N:Nat) (call:j5) (a:Int):b8s G8 N call (.int .i64 a)=M.pure (.ret (.string ⟨⟨a2k a⟩⟩)):=by
 simp only [b8s,c4F,c5d,c4x,bn,U6,a3n,P5,V.d9Z,a6Q,a8m,Q7]
 rfl
theorem t43 (N:Nat) (call:j5) (a:Int):b7Q G8 N call (.int .i64 a)=M.pure (.ret (.string ⟨⟨bcase (decide (a=3)) [102, 117, 110, 99] [101, 120, 116, 101, 114, 110]⟩⟩)):=by
 simp only [b7Q,bn,U6,a3n,P5,V.d9Z,a6Q,a8m,Q7]
 rfl
theorem t50 (N:Nat) (call:j5) (hc:∀ a,call 54 [.int .i64 a]=M.pure (.ret (.bool (a2X a)))) (a:Int):a3k (b5W G8 N call (.int .i64 a)) (.string ⟨⟨a2k a⟩⟩):=by
 intro c h r w
 simp only [b5W,c4y,hc,un,U6,V6,K6,M0,J8,a4b,a7k,P5,V.d9Z,U3,V5]
 refine I6.cases (fun hb=>?_) (fun hb=>?_)
 · simp only [a2X,Bool.and_eq_true,decide_eq_true_eq] at hb
   have:a=Int.ofNat 1 ∨ a=Int.ofNat 2 ∨ a=Int.ofNat 3 ∨ a=Int.ofNat 4:=by simp only [Int.ofNat_eq_natCast]; omega
   rcases this with rfl | rfl | rfl | rfl
   all_goals
    simp (config:={ maxSteps:=10000000 }) (disch:=first | assumption | omega | (simp only [q9,C8,G7,F7,l8,D6,q8,F6,F3,Bool.not_false,Bool.not_true,Bool.and_true,Bool.true_and,Bool.and_self,r9,D5,Nat.zero_add,Nat.reduceAdd,j4,F8,Nat.reduceBEq,G9,H6,E5,j6,A8,l7,l6,l9,C9,j4,F4,G6,G5,F9,H8,H9,D7,z8,D9,w9,o8,o9,F5,D8,I7,IntKind.bits,E9,A9,o7] <;> omega) | assumption) only [K6,I8,M0,K4,l_0,V.d9Z,a7u,j6,U9,V4,a0l,c2U,R3,Q5,q9,C8,l8,Bool.and_self,M9,K7,N9,I5,I9,K9,N8,O6,Q9,J6,J7,Nat.zero_add,Nat.reduceMul]
    refine I6.done ⟨rfl,fun i hi=>?_⟩
    simp (config:={ maxSteps:=10000000 }) (disch:=first | assumption | omega | (simp only [q9,C8,G7,F7,l8,D6,q8,F6,F3,Bool.not_false,Bool.not_true,Bool.and_true,Bool.true_and,Bool.and_self,r9,D5,Nat.zero_add,Nat.reduceAdd,j4,F8,Nat.reduceBEq,G9,H6,E5,j6,A8,l7,l6,l9,C9,j4,F4,G6,G5,F9,H8,H9,D7,z8,D9,w9,o8,o9,F5,D8,I7,IntKind.bits,E9,A9,o7] <;> omega) | assumption) only [E8]
 · refine I6.done ⟨?_,fun i hi=>rfl⟩
   have:a2k a=[]:=by
    simp only [a2X,Bool.and_eq_false_iff,decide_eq_false_iff_not] at hb
    unfold a2k
    rw [show decide (a=1)=false by simp; omega,show decide (a=2)=false by simp; omega,show decide (a=3)=false by simp; omega,show decide (a=4)=false by simp; omega]
    rfl
   rw [this]
theorem b7N:∀ d,d < 10 → a6d (a3l [48, 49, 50, 51, 52, 53, 54, 55, 56, 57, 97, 98, 99, 100, 101, 102] d) (d + 1 - d)=[UInt8.ofNat (48 + d)]:=by decide
noncomputable def q25 (z:Int):Option Value:=match z with
 | .ofNat m=>bcase (Nat.blt m 18446744073709551616) (some (.string ⟨⟨Lib.decDigits m⟩⟩)) none
 | .negSucc _=>none
theorem a9n (m:Nat) (h:m < 10):Lib.decDigits m=[UInt8.ofNat (48 + m)]:=by rw [Lib.decDigits,dif_pos h]
theorem b9e (m:Nat) (h:¬ m < 10):Lib.decDigits m=Lib.decDigits (m / 10) ++ [UInt8.ofNat (48 + m % 10)]:=by rw [Lib.decDigits,dif_neg h]
theorem c6W (k:Nat):∀ m,m < 10 ^ (k + 1) → (Lib.decDigits m).length ≤ k + 1:=by
 induction k with
 | zero=>intro m h; rw [a9n m (by omega)]; simp
 | succ k ih=>
   intro m h
   by_cases h1:m < 10
   · rw [a9n m h1]; simp
   · rw [b9e m h1]
     have:=ih (m / 10) (by rw [Nat.pow_succ] at h; omega)
     simp; omega
theorem a4I (m:Nat) (h:m < 18446744073709551616):(Lib.decDigits m).length ≤ 20:=c6W 19 m (by omega)
theorem t25 (N:Nat) (sh:a2i) (hsh:sh.get 25=some (ar1 (b4n X3 N))) (k:Nat):∀ m,m < 10 ^ (k + 1) → m < 18446744073709551616 → J9 sh (k + 1) 25 [.int .u64 (.ofNat m)]=M.pure (.ret (.string ⟨⟨Lib.decDigits m⟩⟩)):=by
 induction k with
 | zero=>
   intro m h h64
   have h10:m < 10:=by omega
   have hb:decide (Int.ofNat m < Int.ofNat 10)=true:=by simp only [decide_eq_true_eq,Int.ofNat_eq_natCast]; omega
   have hw:a1d .u64 (Int.ofNat m + Int.ofNat 1)=Int.ofNat (m + 1):=a4o .u64 (m + 1) (by show m + 1 < 18446744073709551616; omega)
   rw [a3g hsh]
   simp (config:={ maxSteps:=10000000 }) (disch:=first | assumption | omega | (simp only [q9,C8,G7,F7,l8,D6,q8,F6,F3,Bool.not_false,Bool.not_true,Bool.and_true,Bool.true_and,Bool.and_self,r9,D5,Nat.zero_add,Nat.reduceAdd,j4,F8,Nat.reduceBEq,G9,H6,E5,j6,A8,l7,l6,l9,C9,j4,F4,G6,G5,F9,H8,H9,D7,z8,D9,w9,o8,o9,F5,D8,I7,IntKind.bits,E9,A9,o7] <;> omega) | assumption) only [b4n,b5D,b5G,b2p,b5O,hb,hw,bn,U6,a0d,O5,O4,K4,P5,V.d9Z,a2l,a2R,b2C,b2l,b0B,Nat.reduceAdd,b7N m h10]
   rw [a9n m h10]
 | succ k ih=>
   intro m h h64
   by_cases h10:m < 10
   · have hb:decide (Int.ofNat m < Int.ofNat 10)=true:=by simp only [decide_eq_true_eq,Int.ofNat_eq_natCast]; omega
     have hw:a1d .u64 (Int.ofNat m + Int.ofNat 1)=Int.ofNat (m + 1):=a4o .u64 (m + 1) (by show m + 1 < 18446744073709551616; omega)
     rw [a3g hsh]
     simp (config:={ maxSteps:=10000000 }) (disch:=first | assumption | omega | (simp only [q9,C8,G7,F7,l8,D6,q8,F6,F3,Bool.not_false,Bool.not_true,Bool.and_true,Bool.true_and,Bool.and_self,r9,D5,Nat.zero_add,Nat.reduceAdd,j4,F8,Nat.reduceBEq,G9,H6,E5,j6,A8,l7,l6,l9,C9,j4,F4,G6,G5,F9,H8,H9,D7,z8,D9,w9,o8,o9,F5,D8,I7,IntKind.bits,E9,A9,o7] <;> omega) | assumption) only [b4n,b5D,b5G,b2p,b5O,hb,hw,bn,U6,a0d,O5,O4,K4,P5,V.d9Z,a2l,a2R,b2C,b2l,b0B,Nat.reduceAdd,b7N m h10]
     rw [a9n m h10]
   · have hb:decide (Int.ofNat m < Int.ofNat 10)=false:=by simp only [decide_eq_false_iff_not,Int.ofNat_eq_natCast]; omega
     have hw:a1d .u64 (Int.ofNat (m % 10) + Int.ofNat 1)=Int.ofNat (m % 10 + 1):=a4o .u64 (m % 10 + 1) (by show m % 10 + 1 < 18446744073709551616; omega)
     have hi:=ih (m / 10) (by rw [Nat.pow_succ] at h; omega) (by omega)
     have hl:M4 (Lib.decDigits (m / 10)) ≤ 20:=by rw [a0m]; exact a4I (m / 10) (by omega)
     rw [a3g hsh]
     simp (config:={ maxSteps:=10000000 }) (disch:=first | assumption | omega | (simp only [q9,C8,G7,F7,l8,D6,q8,F6,F3,Bool.not_false,Bool.not_true,Bool.and_true,Bool.true_and,Bool.and_self,r9,D5,Nat.zero_add,Nat.reduceAdd,j4,F8,Nat.reduceBEq,G9,H6,E5,j6,A8,l7,l6,l9,C9,j4,F4,G6,G5,F9,H8,H9,D7,z8,D9,w9,o8,o9,F5,D8,I7,IntKind.bits,E9,A9,o7] <;> omega) | assumption) only [b4n,b5D,b5G,b2p,b5O,c3y,hb,hw,hi,bn,U6,a0d,J8,O5,O4,J4,l_0,l_s,P5,V.d9Z,Q8,a2l,a2R,b2C,b2l,a0n,b0B,Nat.reduceAdd,b7N (m % 10) (by omega)]
     rw [b9e m h10,M7]
end Go.Proofs.YtmomonnlmbljoaaGreatDoor
end
section
namespace Go.Proofs.YtmomonnlmbljoaaGreatDoor
open Go.V Go.RowKit Go.Shelf Go.Proofs
set_option maxRecDepth 1000000
attribute [local congr] a0b Z9 a0A a0B a0M
variable {mL:Int}
theorem b2A (n:Nat):Lib.itoa (Int.ofNat n)=Lib.decDigits n:=by
 unfold Lib.itoa
 rw [if_neg (by simp only [Int.ofNat_eq_natCast]; omega)]
 rfl
theorem b2r (n:Nat):Lib.itoa (Int.negSucc n)=45 :: Lib.decDigits (n + 1):=by
 unfold Lib.itoa
 rw [if_pos (Int.negSucc_lt_zero n)]
 rfl
theorem a7o (z:Int) (h1:-9223372036854775808 ≤ z) (h2:z ≤ 18446744073709551615):M4 (Lib.itoa z) ≤ 21:=by
 rw [a0m]
 cases z with
 | ofNat n=>rw [b2A]; have:=a4I n (by simp only [Int.ofNat_eq_natCast] at h2; omega); omega
 | negSucc n=>rw [b2r]; have:=a4I (n + 1) (by omega); simp; omega
def sgn (w n:Nat):Int:=if n < 2 ^ (w - 1) then (n:Int) else (n:Int) - 2 ^ w
noncomputable def a6l (z w:Int):Option Value:=match z with
 | .ofNat n=>match w with
   | .ofNat w=>bcase ((Nat.beq w 32 && Nat.blt n 4294967296) || (Nat.beq w 64 && Nat.blt n 18446744073709551616)) (some (.string ⟨⟨Lib.itoa (sgn w n)⟩⟩)) none
   | .negSucc _=>none
 | .negSucc _=>none
theorem a5H (k:IntKind) (n:Int):a1d k n=k.wrap n:=V.a5H k n
theorem b4K (n k:Nat):Nat.land n (2 ^ k - 1)=n % 2 ^ k:=Nat.and_two_pow_sub_one_eq_mod n k
theorem b2v (n:Nat) (hn:n < 4294967296):-9223372036854775808 ≤ sgn 32 n:=by unfold sgn; split <;> omega
theorem b2x (n:Nat) (hn:n < 4294967296):sgn 32 n ≤ 9223372036854775807:=by unfold sgn; split <;> omega
theorem b9N (n:Nat) (hn:n < 4294967296):(a1d .i64 (Int.ofNat (n * 4294967296))).fdiv 4294967296=sgn 32 n:=by
 rw [a5H,IntKind.wrap_i64]
 unfold sgn
 rw [Int.fdiv_eq_ediv_of_nonneg _ (by decide)]
 simp only [Int.ofNat_eq_natCast]
 split <;> omega
theorem c2a (n:Nat) (hn:n < 4294967296) (t:TypeId) (x y:Operand):a4r Tryz.prog Q6 .shl t x y (.int .u64 (.ofNat n)) (.int .i64 (.ofNat 32))=M.pure (.int .u64 (.ofNat (n * 4294967296))):=by
 rw [a5T _ _ _ _ _ _ _ _ _ (by decide),show (2:Nat) ^ 32=4294967296 from rfl,a4o .u64 _ (by show n * 4294967296 < 18446744073709551616; omega)]
theorem c1V (n:Nat) (hn:n < 4294967296) (t:TypeId) (x y:Operand):a4r Tryz.prog Q6 .shr t x y (.int .i64 (a1d .i64 (Int.ofNat (n * 4294967296)))) (.int .i64 (.ofNat 32))=M.pure (.int .i64 (sgn 32 n)):=by
 rw [b7H _ _ _ _ _ _ _ _ _ (by decide),show (2:Int) ^ 32=4294967296 from rfl,b9N n hn]
theorem d0A (N:Nat) (call:j5) (n:Nat) (hn:n < 4294967296) (hc:∀ z:Int, -9223372036854775808 ≤ z → z ≤ 9223372036854775807 → call 95 [.int .i64 z,.int .i64 (.ofNat 10)]=M.pure (.ret (.string ⟨⟨Lib.itoa z⟩⟩))) :
 b1i G8 N call (.int .u64 (.ofNat n)) (.int .i64 (.ofNat 32))=M.pure (.ret (.string ⟨⟨Lib.itoa (sgn 32 n)⟩⟩)):=by
 have e4:=hc _ (b2v n hn) (b2x n hn)
 have e2:=c2a n hn
 have e5:=c1V n hn
 generalize n * 4294967296=b at e2 e5
 have e1:a1d .i64 (Int.ofNat 64 - Int.ofNat 32)=Int.ofNat 32:=by decide
 have b1:decide (Int.ofNat 32 < Int.ofNat 1)=false:=by decide
 have b2:decide (Int.ofNat 64 < Int.ofNat 32)=false:=by decide
 simp only [b1i,b9L,bn,U6,a0d,V6,e1,b1,b2,a3a,J4,a3n,a4k,a4m,a7k,l_0,l_s,a5o,P5,L9,V.d9Z,a2l,a5i,a7Y,a7P,e2,e5,e4,c9o]
theorem c9U (N:Nat) (call:j5) (n:Nat) (hn:n < 18446744073709551616) (hc:∀ z:Int, -9223372036854775808 ≤ z → z ≤ 9223372036854775807 → call 95 [.int .i64 z,.int .i64 (.ofNat 10)]=M.pure (.ret (.string ⟨⟨Lib.itoa z⟩⟩))) :
 b1i G8 N call (.int .u64 (.ofNat n)) (.int .i64 (.ofNat 64))=M.pure (.ret (.string ⟨⟨Lib.itoa (sgn 64 n)⟩⟩)):=by
 have e1:a1d .i64 (Int.ofNat 64 - Int.ofNat 64)=Int.ofNat 0:=by decide
 have e2:a1d .u64 (Int.ofNat n)=Int.ofNat n:=a4o .u64 _ hn
 have e3:(a1d .i64 (Int.ofNat n)).fdiv 1=sgn 64 n:=by
  rw [a5H,IntKind.wrap_i64]
  unfold sgn
  rw [Int.fdiv_eq_ediv_of_nonneg _ (by decide)]
  simp only [Int.ofNat_eq_natCast]
  split <;> omega
 have e4:call 95 [.int .i64 (sgn 64 n),.int .i64 (.ofNat 10)]=M.pure (.ret (.string ⟨⟨Lib.itoa (sgn 64 n)⟩⟩)):=hc _ (by unfold sgn; split <;> omega) (by unfold sgn; split <;> omega)
 have b1:decide (Int.ofNat 64 < Int.ofNat 1)=false:=by decide
 have b2:decide (Int.ofNat 64 < Int.ofNat 64)=false:=by decide
 simp (config:={ maxSteps:=10000000 }) (disch:=first | assumption | omega | (simp only [q9,C8,G7,F7,l8,D6,q8,F6,F3,Bool.not_false,Bool.not_true,Bool.and_true,Bool.true_and,Bool.and_self,r9,D5,Nat.zero_add,Nat.reduceAdd,j4,F8,Nat.reduceBEq,G9,H6,E5,j6,A8,l7,l6,l9,C9,j4,F4,G6,G5,F9,H8,H9,D7,z8,D9,w9,o8,o9,F5,D8,I7,IntKind.bits,E9,A9,o7] <;> omega) | assumption) only [b1i,b9L,e1,b1,b2,bn,U6,a0d,V6,J8,a3a,J4,a3n,a4k,a4m,a7k,l_0,l_s,a5o,Nat.reducePow,Int.reducePow,P5,L9,V.d9Z,a2l,a5i,a7Y,a5T,b7H,a7P,Nat.mul_one,e2,e3,e4]
theorem d0E (N:Nat) (call:j5) (n:Nat) (hn:n < 4294967296) (hc:∀ m:Nat,m < 18446744073709551616 → call 25 [.int .u64 (.ofNat m)]=M.pure (.ret (.string ⟨⟨Lib.decDigits m⟩⟩))) :
 a9C G8 N call (.int .u64 (.ofNat n)) (.int .i64 (.ofNat 32))=M.pure (.ret (.string ⟨⟨Lib.itoa (sgn 32 n)⟩⟩)):=by
 have e1:a1d .i64 (Int.ofNat 32 - Int.ofNat 1)=Int.ofNat 31:=by decide
 have e2:a1d .u64 (Int.ofNat 2147483648)=Int.ofNat 2147483648:=by decide
 have e3:a1d .u64 (Int.ofNat 2147483648 - Int.ofNat 1)=Int.ofNat 2147483647:=by decide
 have e4:a1d .u64 (Int.ofNat 2147483647 + Int.ofNat 2147483648)=Int.ofNat 4294967295:=by decide
 have e5:Nat.land n 4294967295=n:=by
  rw [show (4294967295:Nat)=2 ^ 32 - 1 by decide,b4K]; exact Nat.mod_eq_of_lt hn
 have b1:decide (Int.ofNat 32 < Int.ofNat 1)=false:=by decide
 have b2:decide (Int.ofNat 64 < Int.ofNat 32)=false:=by decide
 have hkb:I7 .u64=2 ^ IntKind.u64.bits:=by decide
 by_cases hs:n < 2147483648
 · have b3:decide (Int.ofNat n < Int.ofNat 2147483648)=true:=by simp only [decide_eq_true_eq,Int.ofNat_eq_natCast]; omega
   have h1:=hc n (by omega)
   have e6:sgn 32 n=Int.ofNat n:=by unfold sgn; rw [if_pos (by omega)]; rfl
   simp (config:={ maxSteps:=10000000 }) (disch:=first | assumption | omega | (simp only [q9,C8,G7,F7,l8,D6,q8,F6,F3,Bool.not_false,Bool.not_true,Bool.and_true,Bool.true_and,Bool.and_self,r9,D5,Nat.zero_add,Nat.reduceAdd,j4,F8,Nat.reduceBEq,G9,H6,E5,j6,A8,l7,l6,l9,C9,j4,F4,G6,G5,F9,H8,H9,D7,z8,D9,w9,o8,o9,F5,D8,I7,IntKind.bits,E9,A9,o7] <;> omega) | assumption) only [a9C,b3a,b3q,e1,b1,b2,bn,U6,a0d,V6,J8,a3a,K4,J4,a3n,a4k,a4m,a7k,l_0,l_s,a5o,Nat.reducePow,P5,L9,V.d9Z,a2l,a5i,a2R,a7Y,b0q,a5T,Nat.one_mul,e2,e3,e4,e5,b3,h1,e6,b2A]
 · have b3:decide (Int.ofNat n < Int.ofNat 2147483648)=false:=by simp only [decide_eq_false_iff_not,Int.ofNat_eq_natCast]; omega
   have h1:=hc (4294967296 - n) (by omega)
   have hl:M4 (Lib.decDigits (4294967296 - n)) ≤ 20:=by rw [a0m]; exact a4I _ (by omega)
   have e6:sgn 32 n=Int.negSucc (4294967295 - n):=by unfold sgn; rw [if_neg (by omega)]; rw [Int.negSucc_eq]; omega
   have e7:a1d .u64 (Int.ofNat n - Int.ofNat 2147483648)=Int.ofNat (n - 2147483648):=by
    rw [show Int.ofNat n - Int.ofNat 2147483648=Int.ofNat (n - 2147483648) by simp only [Int.ofNat_eq_natCast]; omega]
    exact a4o .u64 _ (by show n - 2147483648 < 18446744073709551616; omega)
   have e8:a1d .u64 (Int.ofNat 2147483648 - Int.ofNat (n - 2147483648))=Int.ofNat (4294967296 - n):=by
    rw [show Int.ofNat 2147483648 - Int.ofNat (n - 2147483648)=Int.ofNat (4294967296 - n) by simp only [Int.ofNat_eq_natCast]; omega]
    exact a4o .u64 _ (by show 4294967296 - n < 18446744073709551616; omega)
   simp (config:={ maxSteps:=10000000 }) (disch:=first | assumption | omega | (simp only [q9,C8,G7,F7,l8,D6,q8,F6,F3,Bool.not_false,Bool.not_true,Bool.and_true,Bool.true_and,Bool.and_self,r9,D5,Nat.zero_add,Nat.reduceAdd,j4,F8,Nat.reduceBEq,G9,H6,E5,j6,A8,l7,l6,l9,C9,j4,F4,G6,G5,F9,H8,H9,D7,z8,D9,w9,o8,o9,F5,D8,I7,IntKind.bits,E9,A9,o7] <;> omega) | assumption) only [a9C,b3a,b3q,e1,b1,b2,bn,U6,a0d,V6,J8,A9,o7,a3a,J4,a3n,a4k,a4m,a7k,l_0,l_s,a5o,Nat.reducePow,P5,L9,V.d9Z,a2l,a5i,a2R,a7Y,b0q,a5T,a0n,Nat.one_mul,e2,e3,e4,e5,b3,e7,e8,h1,e6,b2r]
   rw [show 4294967295 - n + 1=4294967296 - n by omega]
theorem c8v (N:Nat) (call:j5) (n:Nat) (hn:n < 18446744073709551616) (hc:∀ m:Nat,m < 18446744073709551616 → call 25 [.int .u64 (.ofNat m)]=M.pure (.ret (.string ⟨⟨Lib.decDigits m⟩⟩))) :
 a9C G8 N call (.int .u64 (.ofNat n)) (.int .i64 (.ofNat 64))=M.pure (.ret (.string ⟨⟨Lib.itoa (sgn 64 n)⟩⟩)):=by
 have e1:a1d .i64 (Int.ofNat 64 - Int.ofNat 1)=Int.ofNat 63:=by decide
 have e2:a1d .u64 (Int.ofNat 9223372036854775808)=Int.ofNat 9223372036854775808:=by decide
 have e3:a1d .u64 (Int.ofNat 9223372036854775808 - Int.ofNat 1)=Int.ofNat 9223372036854775807:=by decide
 have e4:a1d .u64 (Int.ofNat 9223372036854775807 + Int.ofNat 9223372036854775808)=Int.ofNat 18446744073709551615:=by decide
 have e5:Nat.land n 18446744073709551615=n:=by
  rw [show (18446744073709551615:Nat)=2 ^ 64 - 1 by decide,b4K]; exact Nat.mod_eq_of_lt hn
 have b1:decide (Int.ofNat 64 < Int.ofNat 1)=false:=by decide
 have b2:decide (Int.ofNat 64 < Int.ofNat 64)=false:=by decide
 have hkb:I7 .u64=2 ^ IntKind.u64.bits:=by decide
 by_cases hs:n < 9223372036854775808
 · have b3:decide (Int.ofNat n < Int.ofNat 9223372036854775808)=true:=by simp only [decide_eq_true_eq,Int.ofNat_eq_natCast]; omega
   have h1:=hc n (by omega)
   have e6:sgn 64 n=Int.ofNat n:=by unfold sgn; rw [if_pos (by omega)]; rfl
   simp (config:={ maxSteps:=10000000 }) (disch:=first | assumption | omega | (simp only [q9,C8,G7,F7,l8,D6,q8,F6,F3,Bool.not_false,Bool.not_true,Bool.and_true,Bool.true_and,Bool.and_self,r9,D5,Nat.zero_add,Nat.reduceAdd,j4,F8,Nat.reduceBEq,G9,H6,E5,j6,A8,l7,l6,l9,C9,j4,F4,G6,G5,F9,H8,H9,D7,z8,D9,w9,o8,o9,F5,D8,I7,IntKind.bits,E9,A9,o7] <;> omega) | assumption) only [a9C,b3a,b3q,e1,b1,b2,bn,U6,a0d,V6,J8,a3a,K4,J4,a3n,a4k,a4m,a7k,l_0,l_s,a5o,Nat.reducePow,P5,L9,V.d9Z,a2l,a5i,a2R,a7Y,b0q,a5T,Nat.one_mul,e2,e3,e4,e5,b3,h1,e6,b2A]
 · have b3:decide (Int.ofNat n < Int.ofNat 9223372036854775808)=false:=by simp only [decide_eq_false_iff_not,Int.ofNat_eq_natCast]; omega
   have h1:=hc (18446744073709551616 - n) (by omega)
   have hl:M4 (Lib.decDigits (18446744073709551616 - n)) ≤ 20:=by rw [a0m]; exact a4I _ (by omega)
   have e6:sgn 64 n=Int.negSucc (18446744073709551615 - n):=by unfold sgn; rw [if_neg (by omega)]; rw [Int.negSucc_eq]; omega
   have e7:a1d .u64 (Int.ofNat n - Int.ofNat 9223372036854775808)=Int.ofNat (n - 9223372036854775808):=by
    rw [show Int.ofNat n - Int.ofNat 9223372036854775808=Int.ofNat (n - 9223372036854775808) by simp only [Int.ofNat_eq_natCast]; omega]
    exact a4o .u64 _ (by show n - 9223372036854775808 < 18446744073709551616; omega)
   have e8:a1d .u64 (Int.ofNat 9223372036854775808 - Int.ofNat (n - 9223372036854775808))=Int.ofNat (18446744073709551616 - n):=by
    rw [show Int.ofNat 9223372036854775808 - Int.ofNat (n - 9223372036854775808)=Int.ofNat (18446744073709551616 - n) by simp only [Int.ofNat_eq_natCast]; omega]
    exact a4o .u64 _ (by show 18446744073709551616 - n < 18446744073709551616; omega)
   simp (config:={ maxSteps:=10000000 }) (disch:=first | assumption | omega | (simp only [q9,C8,G7,F7,l8,D6,q8,F6,F3,Bool.not_false,Bool.not_true,Bool.and_true,Bool.true_and,Bool.and_self,r9,D5,Nat.zero_add,Nat.reduceAdd,j4,F8,Nat.reduceBEq,G9,H6,E5,j6,A8,l7,l6,l9,C9,j4,F4,G6,G5,F9,H8,H9,D7,z8,D9,w9,o8,o9,F5,D8,I7,IntKind.bits,E9,A9,o7] <;> omega) | assumption) only [a9C,b3a,b3q,e1,b1,b2,bn,U6,a0d,V6,J8,A9,o7,a3a,J4,a3n,a4k,a4m,a7k,l_0,l_s,a5o,Nat.reducePow,P5,L9,V.d9Z,a2l,a5i,a2R,a7Y,b0q,a5T,a0n,Nat.one_mul,e2,e3,e4,e5,b3,e7,e8,h1,e6,b2r]
   rw [show 18446744073709551615 - n + 1=18446744073709551616 - n by omega]
theorem t55 (N:Nat) (call:j5) (z:Int) (h1:-9223372036854775808 ≤ z) (h2:z ≤ 9223372036854775807) (hc:∀ n:Nat,n < 18446744073709551616 → call 53 [.int .u64 (.ofNat n),.int .i64 (.ofNat 64)]=M.pure (.ret (.string ⟨⟨Lib.itoa (sgn 64 n)⟩⟩))) :
 b7E G8 N call (.int .i64 z)=M.pure (.ret (.string ⟨⟨Lib.itoa z⟩⟩)):=by
 obtain ⟨n,hn,e,es⟩:∃ n:Nat,n < 18446744073709551616 ∧ a1d .u64 z=Int.ofNat n ∧ sgn 64 n=z:=by
  refine ⟨(z % 18446744073709551616).toNat,by omega, ?_, ?_⟩
  · rw [a5H,IntKind.wrap_u64]; simp only [Int.ofNat_eq_natCast]; omega
  · unfold sgn; split <;> omega
 have h:=hc n hn
 rw [es] at h
 simp (config:={ maxSteps:=10000000 }) (disch:=first | assumption | omega | (simp only [q9,C8,G7,F7,l8,D6,q8,F6,F3,Bool.not_false,Bool.not_true,Bool.and_true,Bool.true_and,Bool.and_self,r9,D5,Nat.zero_add,Nat.reduceAdd,j4,F8,Nat.reduceBEq,G9,H6,E5,j6,A8,l7,l6,l9,C9,j4,F4,G6,G5,F9,H8,H9,D7,z8,D9,w9,o8,o9,F5,D8,I7,IntKind.bits,E9,A9,o7] <;> omega) | assumption) only [b7E,U6,V6,J8,V.d9Z,a7P,e,h]
noncomputable def Z8 (m:Nat):List UInt8:=32 :: Lib.decDigits m
noncomputable def q47 (z:Int):Option Value:=match z with
 | .ofNat m=>bcase (Nat.blt m 18446744073709551616) (some (.string ⟨⟨Z8 m⟩⟩)) none
 | .negSucc _=>none
theorem t47 (N:Nat) (call:j5) (m:Nat) (hm:m < 18446744073709551616) (hc:∀ m:Nat,m < 18446744073709551616 → call 25 [.int .u64 (.ofNat m)]=M.pure (.ret (.string ⟨⟨Lib.decDigits m⟩⟩))) :
 b7D G8 N call (.int .i64 (.ofNat m))=M.pure (.ret (.string ⟨⟨Z8 m⟩⟩)):=by
 have e:a1d .u64 (Int.ofNat m)=Int.ofNat m:=a4o .u64 m hm
 have hl:M4 (Lib.decDigits m) ≤ 20:=by rw [a0m]; exact a4I _ hm
 have h1:=hc m hm
 simp (config:={ maxSteps:=10000000 }) (disch:=first | assumption | omega | (simp only [q9,C8,G7,F7,l8,D6,q8,F6,F3,Bool.not_false,Bool.not_true,Bool.and_true,Bool.true_and,Bool.and_self,r9,D5,Nat.zero_add,Nat.reduceAdd,j4,F8,Nat.reduceBEq,G9,H6,E5,j6,A8,l7,l6,l9,C9,j4,F4,G6,G5,F9,H8,H9,D7,z8,D9,w9,o8,o9,F5,D8,I7,IntKind.bits,E9,A9,o7] <;> omega) | assumption) only [b7D,bn,U6,V6,J8,A9,o7,V.d9Z,a0n,a7P,e,h1]
 rfl
noncomputable def a0V (m:Nat):List UInt8:=bcase (Nat.beq m 0) [] (Z8 m)
noncomputable def q49 (z:Int):Option Value:=match z with
 | .ofNat m=>bcase (Nat.blt m 18446744073709551616) (some (.string ⟨⟨a0V m⟩⟩)) none
 | .negSucc _=>none
theorem V9 (a b:Nat):decide (Int.ofNat a=Int.ofNat b)=Nat.beq a b:=by
 cases h:Nat.beq a b with
 | true=>rw [Nat.eq_of_beq_eq_true h]; simp
 | false=>have:a ≠ b:=fun e=>by rw [e] at h; simp at h
          simp only [decide_eq_false_iff_not,Int.ofNat_eq_natCast]; omega
theorem t49 (N:Nat) (call:j5) (m:Nat) (hm:m < 18446744073709551616) (hc:∀ m:Nat,m < 18446744073709551616 → call 47 [.int .i64 (.ofNat m)]=M.pure (.ret (.string ⟨⟨Z8 m⟩⟩))) :
 b6i G8 N call (.int .i64 (.ofNat m))=M.pure (.ret (.string ⟨⟨a0V m⟩⟩)):=by
 have h1:=hc m hm
 simp (config:={ maxSteps:=10000000 }) (disch:=first | assumption | omega | (simp only [q9,C8,G7,F7,l8,D6,q8,F6,F3,Bool.not_false,Bool.not_true,Bool.and_true,Bool.true_and,Bool.and_self,r9,D5,Nat.zero_add,Nat.reduceAdd,j4,F8,Nat.reduceBEq,G9,H6,E5,j6,A8,l7,l6,l9,C9,j4,F4,G6,G5,F9,H8,H9,D7,z8,D9,w9,o8,o9,F5,D8,I7,IntKind.bits,E9,A9,o7] <;> omega) | assumption) only [b6i,bn,U6,V6,J8,a3n,P5,V.d9Z,a6Q,a8m,Q7,h1,V9]
 rfl
noncomputable def a4L (m n:Nat):List UInt8:=bcase (Nat.beq m 0 && Nat.beq n 0) [] (Z8 m ++ Z8 n)
noncomputable def q51 (z z':Int):Option Value:=match z with
 | .ofNat m=>match z' with
   | .ofNat n=>bcase (Nat.blt m 18446744073709551616 && Nat.blt n 18446744073709551616) (some (.string ⟨⟨a4L m n⟩⟩)) none
   | .negSucc _=>none
 | .negSucc _=>none
theorem a2T (m:Nat) (hm:m < 18446744073709551616):M4 (Z8 m) ≤ 21:=by
 rw [a0m]; have:=a4I m hm; simp [Z8]; omega
theorem t51 (N:Nat) (call:j5) (m n:Nat) (hm:m < 18446744073709551616) (hn:n < 18446744073709551616) (hc:∀ m:Nat,m < 18446744073709551616 → call 47 [.int .i64 (.ofNat m)]=M.pure (.ret (.string ⟨⟨Z8 m⟩⟩))) :
 b6w G8 N call (.int .i64 (.ofNat m)) (.int .i64 (.ofNat n))=M.pure (.ret (.string ⟨⟨a4L m n⟩⟩)):=by
 have h1:=hc m hm
 have h2:=hc n hn
 have l1:=a2T m hm
 have l2:=a2T n hn
 simp (config:={ maxSteps:=10000000 }) (disch:=first | assumption | omega | (simp only [q9,C8,G7,F7,l8,D6,q8,F6,F3,Bool.not_false,Bool.not_true,Bool.and_true,Bool.true_and,Bool.and_self,r9,D5,Nat.zero_add,Nat.reduceAdd,j4,F8,Nat.reduceBEq,G9,H6,E5,j6,A8,l7,l6,l9,C9,j4,F4,G6,G5,F9,H8,H9,D7,z8,D9,w9,o8,o9,F5,D8,I7,IntKind.bits,E9,A9,o7] <;> omega) | assumption) only [b6w,c4z,bn,U6,a0d,V6,J8,a5g,a3n,a4k,a4m,l_0,l_s,a5G,P5,L9,V.d9Z,a6Q,a8m,Q7,a0n,h1,h2,V9]
 rw [M7]
 rfl
end Go.Proofs.YtmomonnlmbljoaaGreatDoor
end
