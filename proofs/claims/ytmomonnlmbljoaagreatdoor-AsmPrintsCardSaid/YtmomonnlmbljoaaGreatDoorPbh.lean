import Derived.Test.YtmomonnlmbljoaaGreatDoorPaw
import Derived.Test.YtmomonnlmbljoaaGreatDoorPbd
import Derived.Test.YtmomonnlmbljoaaGreatDoorPbg
section
noncomputable section
namespace Go.V
variable {c:Nat} {h:Trie VObj} {r w:List Nat}
def apS {γ:Type} (lt:Bool) (ob:Option VObj) (o g len:Nat) (vs:List Value) (k:List (Value×Nat)→Nat→Bool→Option γ):Option γ:=match lt with
 | true=>match ob with
   | some (.cells cs cur ro)=>match !ro && Nat.ble (o+len) (L9 cs) with
     | true=>match Y0 g (a2I cs o) len with
       | some _=>k (M4 (a5W cs (o+len)) (a1R (fun v=>(v,cur+1)) vs)) cur ro
       | none=>none
     | false=>none
   | _=>none
 | false=>none
theorem a0u {γ:Type} (cs:List (Value×Nat)) (cur:Nat) (ro:Bool) (o g len:Nat) (vs:List Value) (k:List (Value×Nat)→Nat→Bool→Option γ) (e:(!ro && Nat.ble (o+len) (L9 cs))=true) :
 apS true (some (.cells cs cur ro)) o g len vs k=oS (Y0 g (a2I cs o) len) fun _=>k (M4 (a5W cs (o+len)) (a1R (fun v=>(v,cur+1)) vs)) cur ro:=by
 unfold apS oS; simp only [e]
 cases Y0 g (a2I cs o) len <;> simp only
theorem a1V {γ:Type} {lt lt':Bool} {ob ob':Option VObj} (o g len:Nat) (vs:List Value) (k:List (Value×Nat)→Nat→Bool→Option γ) (h1:lt=lt') (h2:ob=ob'):apS lt ob o g len vs k=apS lt' ob' o g len vs k:=by rw [h1,h2]
theorem b3f {α β:Type} (m:M α) (k:α→M β) (s:S):M.bind m k s=a3d (go m s) fun a=>k a:=by rw [← J6]; rfl
theorem b9V {e:TI} (e1:e.size=1) (e2:Nat.blt e.bytes 4096=true) (ab o g n:Nat) (vs:List Value) (hv:vs≠[]) (ho:a0o a0I vs=true) (hl:(n+L9 vs) * 4<a6r) :
 go (a4q e (.slice (some ⟨ab,o,some g⟩) n 1) vs) ⟨c,h,r,w⟩=apS (Nat.blt ab c) (h.get ab) o g n vs fun cs' cur ro=>some (.slice (some ⟨ab,o,some (cur+1)⟩) (n+L9 vs) 1,⟨c,upd h ab (.cells cs' (cur+1) ro),ab::r,ab::w⟩):=by
 cases vs with
 | nil=>exact absurd rfl hv
 | cons v vs=>
   have hlen:L9 (v::vs)=L9 vs+1:=rfl
   rw [hlen] at hl
   have e3:Nat.blt ((n+(L9 vs+1)) * 4) a6r=true:=by rw [Nat.blt_eq]; exact hl
   have e4:Nat.beq ((L9 vs+1) / 1 * 1) (L9 vs+1)=true:=by rw [Nat.div_one,Nat.mul_one]; exact Nat.beq_refl _
   show a4q e _ _ _=_
   unfold a4q
   simp only [a5m,e1,ho,Nat.div_one,Nat.mul_one,e3,e2,D7,Bool.and_self,R5]
   unfold appendAt apS
   simp only [Q9,e1,Nat.mul_one]
   rw [b3f]
   show a3d (rd ab ⟨c,h,r,w⟩) _=_
   rw [c3v]
   cases hb:Nat.blt ab c with
   | false=>rfl
   | true=>cases hob:h.get ab with
     | none=>rfl
     | some ob=>cases ob with
       | cells cs cur ro=>
         simp only [I4,a8y]
         cases hro:!ro with
         | false=>rfl
         | true=>
           cases hble:Nat.ble (o+n) (L9 cs) with
           | false=>rfl
           | true=>
             simp only [R5,Bool.and_self]
             cases Y0 g (a2I cs o) n with
             | none=>rfl
             | some _=>
               simp only [Q9,a2R]
               rw [J6]
               show a3d (wr ab _ _) _=_
               rw [c3F,hb,hob]
               rfl
       | _=>rfl
theorem b5V {e:TI} (e1:e.size=1) (e2:Nat.blt e.bytes 4096=true) (es:Nat) (vs:List Value) (hv:vs≠[]) (ho:a0o a0I vs=true) (hl:(L9 vs) * 4<a6r) :
 go (a4q e (.slice none 0 es) vs) ⟨c,h,r,w⟩=some (.slice (some ⟨c, 0,some 0⟩) (L9 vs) 1,⟨c+1,upd h c (.cells (a1R (fun v=>(v, 0)) vs) 0 false),r,c::w⟩):=by
 cases vs with
 | nil=>exact absurd rfl hv
 | cons v vs=>
   have hlen:L9 (v::vs)=L9 vs+1:=rfl
   rw [hlen] at hl
   have e3:Nat.blt ((0+(L9 vs+1)) * 4) a6r=true:=by rw [Nat.blt_eq,Nat.zero_add]; exact hl
   show a4q e _ _ _=_
   unfold a4q
   simp only [a5m,e1,ho,Nat.div_one,Nat.mul_one,e3,e2,D7,Bool.and_self,R5]
   rw [b3f,a6m (e:=ho),I4]
   rfl
def apC (n:Nat) (vs:List Value):Bool:=match vs with
 | []=>false
 | v::vs=>a0o a0I (v::vs) && Nat.blt ((n+L9 (v::vs)) * 4) 4294967296
theorem a0s (n:Nat) (v:Value) (vs:List Value):apC n (v::vs)=(a0o a0I (v::vs) && Nat.blt ((n+L9 (v::vs)) * 4) 4294967296):=Eq.trans rfl rfl
theorem c0X {n:Nat} {vs:List Value} (h:apC n vs=true):vs≠[]∧a0o a0I vs=true∧(n+L9 vs) * 4<a6r:=by
 cases vs with
 | nil=>cases h
 | cons v vs=>
   rw [a0s,Bool.and_eq_true,Nat.blt_eq] at h
   exact ⟨by simp,h⟩
theorem b2y {e:TI} (e1:e.size=1) (e2:Nat.blt e.bytes 4096=true) (b:Option Addr) (n es:Nat) (vs:List Value) (hv:vs≠[]) (hc:apC n vs=false):go (a4q e (.slice b n es) vs) ⟨c,h,r,w⟩=none:=by
 cases vs with
 | nil=>exact absurd rfl hv
 | cons v vs=>
   show a4q e _ _ _=_
   rw [a0s] at hc
   have e5:(a0o a0I (v::vs) && Nat.blt ((n+(L9 vs+1)) * 4) a6r)=false:=hc
   unfold a4q
   simp only [a5m,e1,Nat.div_one,Nat.mul_one,e2,D7,Bool.true_and,Bool.and_true,e5]
   rfl
theorem c7R {g:Nat} {cs:List (Value×Nat)} {m:Nat} {vs:List Value} (h:Y0 g cs (m+1)=some vs):vs≠[]:=by
 cases cs with
 | nil=>cases h
 | cons x cs=>
   have h':(match Nat.ble x.2 g with | true=>(match Y0 g cs m with | some vs=>some (x.1::vs) | none=>none) | false=>none)=some vs:=h
   split at h'
   · split at h'
     · cases h'; simp
     · cases h'
   · cases h'
theorem b5v (xb ox gx m:Nat):a9h 1 (.slice (some ⟨xb,ox,some gx⟩) (m+1) 1)=loadN ⟨xb,ox,some gx⟩ ((m+1) * 1):=Eq.trans rfl rfl
theorem c3D (m xb ox gx:Nat) (k:List Value→M Value) (k':List Value→Option (Value×S)) (hk:∀ vs,vs≠[]→go (k vs) ⟨c,h,xb::r,w⟩=k' vs) :
 a3d (ldS (Nat.blt xb c) (h.get xb) ox gx (m+1) fun vs=>some (vs,⟨c,h,xb::r,w⟩)) k=ldS (Nat.blt xb c) (h.get xb) ox gx (m+1) k':=by
 unfold ldS
 cases Nat.blt xb c with
 | false=>rfl
 | true=>cases h.get xb with
   | none=>rfl
   | some ob=>cases ob with
     | cells cs cur ro=>
       show a3d (match Y0 gx (a2I cs ox) (m+1) with | some vs=>some (vs,_) | none=>none) k=(match Y0 gx (a2I cs ox) (m+1) with | some vs=>k' vs | none=>none)
       cases ht:Y0 gx (a2I cs ox) (m+1) with
       | none=>rfl
       | some vs=>exact hk vs (c7R ht)
     | _=>rfl
theorem d2O {e:TI} (e1:e.size=1) (e2:Nat.blt e.bytes 4096=true) (ab o g n xb ox gx m:Nat) :
 go (a3S e (.slice (some ⟨ab,o,some g⟩) n 1) (.slice (some ⟨xb,ox,some gx⟩) (m+1) 1)) ⟨c,h,r,w⟩=ldS (Nat.blt xb c) (h.get xb) ox gx (m+1) fun vs=>
  bcase (apC n vs) (apS (Nat.blt ab c) (h.get ab) o g n vs fun cs' cur ro=>some (.slice (some ⟨ab,o,some (cur+1)⟩) (n+L9 vs) 1,⟨c,upd h ab (.cells cs' (cur+1) ro),ab::xb::r,ab::w⟩)) none:=by
 unfold a3S
 rw [e1,b5v,Nat.mul_one,J6,a6I]
 refine c3D m xb ox gx _ _ fun vs hv=>?_
 rw [a2R]
 cases hc:apC n vs with
 | false=>exact b2y e1 e2 _ n 1 vs hv hc
 | true=>
   obtain ⟨h1,h2,h3⟩:=c0X hc
   exact b9V e1 e2 ab o g n vs h1 h2 h3
theorem c0d {e:TI} (e1:e.size=1) (e2:Nat.blt e.bytes 4096=true) (es xb ox gx m:Nat) :
 go (a3S e (.slice none 0 es) (.slice (some ⟨xb,ox,some gx⟩) (m+1) 1)) ⟨c,h,r,w⟩=ldS (Nat.blt xb c) (h.get xb) ox gx (m+1) fun vs=>
  bcase (apC 0 vs) (some (.slice (some ⟨c, 0,some 0⟩) (L9 vs) 1,⟨c+1,upd h c (.cells (a1R (fun v=>(v, 0)) vs) 0 false),xb::r,c::w⟩)) none:=by
 unfold a3S
 rw [e1,b5v,Nat.mul_one,J6,a6I]
 refine c3D m xb ox gx _ _ fun vs hv=>?_
 rw [a2R]
 cases hc:apC 0 vs with
 | false=>exact b2y e1 e2 _ 0 es vs hv hc
 | true=>
   obtain ⟨h1,h2,h3⟩:=c0X hc
   exact b5V e1 e2 es vs h1 h2 (by rw [Nat.zero_add] at h3; exact h3)
theorem b3T {e:TI} (b:Option Addr) (n es k:Nat):go (a3S e (.slice b n es) (.slice none 0 k)) ⟨c,h,r,w⟩=some (.slice b n es,⟨c,h,r,w⟩):=by
 show go (a3S e _ _) _=_
 unfold a3S
 rw [J6]
 show a3d (go (M.guard true (M.pure [])) _) _=_
 rw [R5,K3,I4,a2R]
 rfl
theorem b9z {q:List Value→Option (List Value)} {bs:List Value} (e:q bs=some []):go (a6X q bs) ⟨c,h,r,w⟩=some (.slice none 0 0,⟨c,h,r,w⟩):=by
 show a6X q bs _=_
 unfold a6X
 rw [e]; rfl
theorem b1Y {q:List Value→Option (List Value)} {bs:List Value} {v:Value} {vs:List Value} (e:q bs=some (v::vs)) (ho:a0o a0I (v::vs)=true) :
 go (a6X q bs) ⟨c,h,r,w⟩=some (.slice (some ⟨c, 0,some 0⟩) (L9 vs+1) 1,⟨c+1,upd h c (.cells (a1R (fun v=>(v, 0)) (v::vs)) 0 false),r,c::w⟩):=by
 show a6X q bs _=_
 unfold a6X
 rw [e]
 rw [Q9]
 simp only []
 rw [b3f,a6m (e:=ho),I4]
 rfl
theorem F8:a0I .nilFunc=true:=Eq.trans rfl rfl
theorem O1 (c:Nat):Nat.beq (c+1) c=false:=a7Z _ _ (by omega)
theorem N8 (c:Nat):Nat.beq (c+1+1) c=false:=a7Z _ _ (by omega)
theorem N7 (c:Nat):Nat.beq (c+1+1+1) c=false:=a7Z _ _ (by omega)
theorem M9 (c:Nat):Nat.beq (c+1+1+1+1+1+1+1+1+1) c=false:=a7Z _ _ (by omega)
theorem Z4:a4Z []=some []:=Eq.trans rfl rfl
theorem X5 (s:ByteArray) (vs:List Value):a4Z (.string s::vs)=oS (a4Z vs) fun l=>some (s.data.toList::l):=by
 show (match a4Z vs with | some l=>some (s.data.toList::l) | none=>none)=_
 unfold oS
 cases a4Z vs <;> rfl
theorem Y7 (sep x:List UInt8) (l:List (List UInt8)):a5M sep (x::l)=M4 x (a5z sep l):=Eq.trans rfl rfl
theorem V3 (sep:List UInt8):a5z sep []=[]:=Eq.trans rfl rfl
theorem X3 (sep x:List UInt8) (l:List (List UInt8)):a5z sep (x::l)=M4 sep (M4 x (a5z sep l)):=Eq.trans rfl rfl
theorem a0r (b o g n:Nat) (sep:ByteArray):go (a7L [.slice (some ⟨b,o,some g⟩) (n+1) 1,.string sep]) ⟨c,h,r,w⟩=ldS (Nat.blt b c) (h.get b) o g (n+1) fun vs=>oS (a4Z vs) fun xs=>
 bcase (Nat.blt n 4294967295 && Nat.blt (L9 (a5M sep.data.toList xs)) 4294967296) (some (.string ⟨⟨a5M sep.data.toList xs⟩⟩,⟨c,h,b::r,w⟩)) none:=by
 show go (M.bind (loadN ⟨b,o,some g⟩ (n+1)) fun vs=>M.obind (a4Z vs) fun xs=>M.guard (Nat.blt n 4294967295 && Nat.blt (L9 (a5M sep.data.toList xs)) 4294967296) <| M.pure (Value.string ⟨⟨a5M sep.data.toList xs⟩⟩)) _=_
 rw [J6,a6I]
 refine (b4B _ _ _ _ _ _ (fun x=>a3d x fun vs=>M.obind (a4Z vs) fun xs=>M.guard (Nat.blt n 4294967295 && Nat.blt (L9 (a5M sep.data.toList xs)) 4294967296) <| M.pure (Value.string ⟨⟨a5M sep.data.toList xs⟩⟩)) rfl).trans ?_
 congr 1
 funext vs
 show go (M.obind (a4Z vs) fun xs=>M.guard (Nat.blt n 4294967295 && Nat.blt (L9 (a5M sep.data.toList xs)) 4294967296) <| M.pure (Value.string ⟨⟨a5M sep.data.toList xs⟩⟩)) _=_
 cases a4Z vs with
 | none=>rfl
 | some xs=>
   rw [Q9,M5]
   cases Nat.blt n 4294967295 && Nat.blt (L9 (a5M sep.data.toList xs)) 4294967296 <;> rfl
theorem U4 (f:Nat) (a b:Array Value) (vs:List Value):a4Q (.func (.func f) a b) vs=some (f,M4 a.toList (M4 vs b.toList)):=Eq.trans rfl rfl
end Go.V
end
section
namespace Go.Proofs.YtmomonnlmbljoaaGreatDoor
open Go.V Go.RowKit Go.Shelf Go.Proofs
set_option maxRecDepth 1000000
set_option maxHeartbeats 2000000
set_option linter.unusedVariables false
attribute [local congr] U8 U7 Y8 Z0 a0i a0h a1V
variable {mL:Int}
theorem ap9 (ab o g n xb ox gx m:Nat) (c:Nat) (h:Trie VObj) (r w:List Nat) :
 go (a3S ti9 (.slice (some ⟨ab,o,some g⟩) n 1) (.slice (some ⟨xb,ox,some gx⟩) (m+1) 1)) ⟨c,h,r,w⟩=ldS (Nat.blt xb c) (h.get xb) ox gx (m+1) fun vs=>
  bcase (apC n vs) (apS (Nat.blt ab c) (h.get ab) o g n vs fun cs' cur ro=>some (.slice (some ⟨ab,o,some (cur+1)⟩) (n+L9 vs) 1,⟨c,upd h ab (.cells cs' (cur+1) ro),ab::xb::r,ab::w⟩)) none:=d2O (by kernel_rfl) (by kernel_rfl) ab o g n xb ox gx m
theorem b1f (es xb ox gx m:Nat) (c:Nat) (h:Trie VObj) (r w:List Nat) :
 go (a3S ti9 (.slice none 0 es) (.slice (some ⟨xb,ox,some gx⟩) (m+1) 1)) ⟨c,h,r,w⟩=ldS (Nat.blt xb c) (h.get xb) ox gx (m+1) fun vs=>
  bcase (apC 0 vs) (some (.slice (some ⟨c, 0,some 0⟩) (L9 vs) 1,⟨c+1,upd h c (.cells (a1R (fun v=>(v, 0)) vs) 0 false),xb::r,c::w⟩)) none:=c0d (by kernel_rfl) (by kernel_rfl) es xb ox gx m
theorem a9X {α:Type} (x y:α):bcase true x y=x:=Eq.trans rfl rfl
theorem b2i {α:Type} (x y:α):bcase false x y=y:=Eq.trans rfl rfl
theorem Y6 (a:Nat) (h:a<18446744073709551616):L9 (Lib.decDigits a)≤20:=by rw [Z5]; exact a4x _ h
structure Calls12 (N:Nat) (call Y2 call3:o8) (X:Ins) (K:Nat):Prop where
 h35:call 35 [.int .i64 X.op]=M.pure (.ret (.string ⟨⟨V4 X.op⟩⟩))
 h39:call 39 [.int .i64 X.op]=M.pure (.ret (.int .i64 (.ofNat K)))
 h36:∀ a b,call 36 [a,b]=a3V H8 N Y2 a b
 h36':∀ a b,Y2 36 [a,b]=a3V H8 N call3 a b
 h37c:∀ m:Nat,m<9223372036854775808→call 37 [.int .i64 (.ofNat m)]=M.pure (.ret (.string ⟨⟨Lib.decDigits m⟩⟩))
 h37:∀ m:Nat,m<9223372036854775808→Y2 37 [.int .i64 (.ofNat m)]=M.pure (.ret (.string ⟨⟨Lib.decDigits m⟩⟩))
 h37':∀ m:Nat,m<9223372036854775808→call3 37 [.int .i64 (.ofNat m)]=M.pure (.ret (.string ⟨⟨Lib.decDigits m⟩⟩))
 h38:∀ a b,call 38 [a,b]=a2J H8 N Y2 a b
 h44:∀ a,call 44 [a]=a2F H8 N Y2 a
 h96:∀ a b,Y2 96 [a,b]=M.bind (a7L [a,b]) fun v=>M.pure (.ret v)
end Go.Proofs.YtmomonnlmbljoaaGreatDoor
end
section
namespace Go.Proofs.YtmomonnlmbljoaaGreatDoor
open Go.V Go.RowKit Go.Shelf Go.Proofs
set_option maxRecDepth 1000000
set_option maxHeartbeats 4000000
set_option linter.unusedVariables false
attribute [local congr] U8 U7 Y8 Z0 a0i a0h a1V
variable {mL:Int}
theorem d8v (N:Nat) (call Y2 call3:o8) (X:Ins) (tv lv:Value) (a b:Nat) (hA:X.A=.ofNat a) (hB:X.B=.ofNat b) (ha:a<4294967296) (hb:b<4294967296)
 (c:Nat) (h:Trie VObj) (h34:∀ hh,(∀ b,b<c→hh.get b=h.get b)→∃ z:List Nat→List Nat, ∀ r w,go (call 34 [I7 X tv lv]) ⟨c+1,hh,r,w⟩=some (.ret (.bool true),⟨c+1,hh,z r,w⟩))
 (C:Calls12 N call Y2 call3 X 0)
 (Ht:Q6 c h tv (P6 X.types)) (Hl:Q6 c h lv (P6 X.labels)) (r w:List Nat) :
 H6 (go (a0c H8 N call (I7 X tv lv)) ⟨c,h,r,w⟩) fun x s=>x=.ret (.string ⟨⟨M4 (V4 X.op) ([])⟩⟩)∧∀ i,i<c→s.h.get i=h.get i:=by
 obtain ⟨z,h34'⟩:=h34 (upd h c (.cells [(.int .i64 X.op, 0),(.int .i64 X.A, 0),(.int .i64 X.B, 0),(.int .u64 (Int.ofNat X.N), 0),(.int .i64 X.k, 0),(.int .i64 X.v, 0),(.int .i64 X.i, 0),(tv, 0),(lv, 0)] 0 false)) (fun b hb=>F6 (by omega))
 obtain ⟨h35,h39,h36,h36',h37c,h37,h37',h38,h44,h96⟩:=C
 obtain ⟨ta,te,rfl,_⟩:=id Ht
 obtain ⟨la,le,rfl,_⟩:=id Hl
 simp only [I7,hA,hB,List.length_map] at h34'
 have nl:=X9 X.op
 have l1:=Y6 a (by omega)
 have l2:=Y6 b (by omega)
 have q1:=h37 a (by omega)
 have q2:=h37' b (by omega)
 have q3:=h37' a (by omega)
 have q4:=h37c a (by omega)
 simp (config:={ maxSteps:=10000000 }) (disch:=first | assumption | omega | (simp only [O1,N8,N7,M9,F8,Nat.reduceMul,Nat.reduceLT,l9,w9,F3,j6,A8,E8,D8,I5,G9,I9,I8,H7,o9,D5,G8,Nat.reduceAdd,D7,E9,Nat.reduceBEq,G5,F9,d9,j5,l6,z8,D9,F7,F5,F4,G6,C8,q9,A9,q8,l8,l7,E5,C9,G7,IntKind.bits,D6,r9,o7] <;> omega) | assumption) only [a0c,a2j,a2g,a1Z,a2e,a2i,a2a,a2d,a2c,a2b,a2h,a0O,a0X,a1t,a0N,a0Y,a1m,a1b,a0V,a1C,a1l,a1s,a1g,a1A,a1i,a1q,a1h,a1j,a0U,a1z,a1F,a0K,a1w,a1p,a1D,a0J,a1c,a1k,a1y,a1f,a0L,a0S,a0M,a0T,a1x,a0Z,a1B,a0W,a1o,a1e,a1n,a1v,Z9,a0R,a0a,a1u,Z8,a0Q,Z7,a0P,Z6,a1E,a0b,a1r,a2J,a2F,I7,hA,hB,List.length_map,h34',h35,h39,h38,h44,h96,J3,J2,V9,F5,G9,U4,H9,Z4,X5,Y7,V3,a0r,bn,un,U0,V5,U6,a1P,J6,I4,K3,J4,U3,P7,P9,r9,o7,J3,J2,X4,Y3,M6,K6,V.e1g,Q9,P8,R7,Q7,a0l,d9,j5,l6,T9,R9,U9,P5,O5,l9,w9,j6,H7,M7,M8,Q8,Y5,a0D,R8,K8,M5,V8,H9,I6,F6,K9,M0,O6,J5,J7,G8,Nat.add_zero,U5,Q0,R3]
 exact H6.done ⟨by simp only [N9,List.append_nil],fun i hi=>by simp (config:={ maxSteps:=10000000 }) (disch:=first | assumption | omega | (simp only [O1,N8,N7,M9,F8,Nat.reduceMul,Nat.reduceLT,l9,w9,F3,j6,A8,E8,D8,I5,G9,I9,I8,H7,o9,D5,G8,Nat.reduceAdd,D7,E9,Nat.reduceBEq,G5,F9,d9,j5,l6,z8,D9,F7,F5,F4,G6,C8,q9,A9,q8,l8,l7,E5,C9,G7,IntKind.bits,D6,r9,o7] <;> omega) | assumption) only [F6]⟩
theorem d6w (N:Nat) (call Y2 call3:o8) (X:Ins) (tv lv:Value) (a b:Nat) (hA:X.A=.ofNat a) (hB:X.B=.ofNat b) (ha:a<4294967296) (hb:b<4294967296)
 (c:Nat) (h:Trie VObj) (h34:∀ hh,(∀ b,b<c→hh.get b=h.get b)→∃ z:List Nat→List Nat, ∀ r w,go (call 34 [I7 X tv lv]) ⟨c+1,hh,r,w⟩=some (.ret (.bool true),⟨c+1,hh,z r,w⟩))
 (C:Calls12 N call Y2 call3 X 2)
 (Ht:Q6 c h tv (P6 X.types)) (Hl:Q6 c h lv (P6 X.labels)) (r w:List Nat) :
 H6 (go (a0c H8 N call (I7 X tv lv)) ⟨c,h,r,w⟩) fun x s=>x=.ret (.string ⟨⟨M4 (V4 X.op) (X8 a)⟩⟩)∧∀ i,i<c→s.h.get i=h.get i:=by
 obtain ⟨z,h34'⟩:=h34 (upd h c (.cells [(.int .i64 X.op, 0),(.int .i64 X.A, 0),(.int .i64 X.B, 0),(.int .u64 (Int.ofNat X.N), 0),(.int .i64 X.k, 0),(.int .i64 X.v, 0),(.int .i64 X.i, 0),(tv, 0),(lv, 0)] 0 false)) (fun b hb=>F6 (by omega))
 obtain ⟨h35,h39,h36,h36',h37c,h37,h37',h38,h44,h96⟩:=C
 obtain ⟨ta,te,rfl,_⟩:=id Ht
 obtain ⟨la,le,rfl,_⟩:=id Hl
 simp only [I7,hA,hB,List.length_map] at h34'
 have nl:=X9 X.op
 have l1:=Y6 a (by omega)
 have l2:=Y6 b (by omega)
 have q1:=h37 a (by omega)
 have q2:=h37' b (by omega)
 have q3:=h37' a (by omega)
 have q4:=h37c a (by omega)
 simp (config:={ maxSteps:=10000000 }) (disch:=first | assumption | omega | (simp only [O1,N8,N7,M9,F8,Nat.reduceMul,Nat.reduceLT,l9,w9,F3,j6,A8,E8,D8,I5,G9,I9,I8,H7,o9,D5,G8,Nat.reduceAdd,D7,E9,Nat.reduceBEq,G5,F9,d9,j5,l6,z8,D9,F7,F5,F4,G6,C8,q9,A9,q8,l8,l7,E5,C9,G7,IntKind.bits,D6,r9,o7] <;> omega) | assumption) only [a0c,a2j,a2g,a1Z,a2e,a2i,a2a,a2d,a2c,a2b,a2h,a0O,a0X,a1t,a0N,a0Y,a1m,a1b,a0V,a1C,a1l,a1s,a1g,a1A,a1i,a1q,a1h,a1j,a0U,a1z,a1F,a0K,a1w,a1p,a1D,a0J,a1c,a1k,a1y,a1f,a0L,a0S,a0M,a0T,a1x,a0Z,a1B,a0W,a1o,a1e,a1n,a1v,Z9,a0R,a0a,a1u,Z8,a0Q,Z7,a0P,Z6,a1E,a0b,a1r,a3V,a2u,a4b,a2v,a2J,a2F,I7,hA,hB,List.length_map,h34',h35,h39,h36,h38,h44,h96,q1,decide_true,J3,J2,V9,F7,F5,F4,G9,U4,o9,D5,H9,Nat.reduceMul,ap9,a0u,a0s,a1L,a1K,Z4,X5,Y7,V3,X3,a0r,bn,un,U0,V5,U6,a1P,J6,I4,K3,J4,U3,P7,P9,r9,o7,J3,J2,X4,Y3,M6,K6,V.e1g,Q9,R5,P8,R7,Q7,a0l,d9,j5,l6,T9,R9,U9,P5,O5,l9,w9,j6,H7,M7,M8,Q8,Y5,a0D,R8,K8,M5,V8,H9,I6,F6,K9,M0,O6,S9,J5,J7,G8,Nat.add_zero,Nat.reduceAdd,U5,Q0,R3,a0q,V7]
 exact H6.done ⟨by simp only [X8,N9,List.append_nil],fun i hi=>by simp (config:={ maxSteps:=10000000 }) (disch:=first | assumption | omega | (simp only [O1,N8,N7,M9,F8,Nat.reduceMul,Nat.reduceLT,l9,w9,F3,j6,A8,E8,D8,I5,G9,I9,I8,H7,o9,D5,G8,Nat.reduceAdd,D7,E9,Nat.reduceBEq,G5,F9,d9,j5,l6,z8,D9,F7,F5,F4,G6,C8,q9,A9,q8,l8,l7,E5,C9,G7,IntKind.bits,D6,r9,o7] <;> omega) | assumption) only [F6]⟩
theorem d8b (N:Nat) (call Y2 call3:o8) (X:Ins) (tv lv:Value) (a b:Nat) (hA:X.A=.ofNat a) (hB:X.B=.ofNat b) (ha:a<4294967296) (hb:b<4294967296)
 (c:Nat) (h:Trie VObj) (h34:∀ hh,(∀ b,b<c→hh.get b=h.get b)→∃ z:List Nat→List Nat, ∀ r w,go (call 34 [I7 X tv lv]) ⟨c+1,hh,r,w⟩=some (.ret (.bool true),⟨c+1,hh,z r,w⟩))
 (C:Calls12 N call Y2 call3 X 4)
 (Ht:Q6 c h tv (P6 X.types)) (Hl:Q6 c h lv (P6 X.labels)) (r w:List Nat) :
 H6 (go (a0c H8 N call (I7 X tv lv)) ⟨c,h,r,w⟩) fun x s=>x=.ret (.string ⟨⟨M4 (V4 X.op) (X8 a)⟩⟩)∧∀ i,i<c→s.h.get i=h.get i:=by
 obtain ⟨z,h34'⟩:=h34 (upd h c (.cells [(.int .i64 X.op, 0),(.int .i64 X.A, 0),(.int .i64 X.B, 0),(.int .u64 (Int.ofNat X.N), 0),(.int .i64 X.k, 0),(.int .i64 X.v, 0),(.int .i64 X.i, 0),(tv, 0),(lv, 0)] 0 false)) (fun b hb=>F6 (by omega))
 obtain ⟨h35,h39,h36,h36',h37c,h37,h37',h38,h44,h96⟩:=C
 obtain ⟨ta,te,rfl,_⟩:=id Ht
 obtain ⟨la,le,rfl,_⟩:=id Hl
 simp only [I7,hA,hB,List.length_map] at h34'
 have nl:=X9 X.op
 have l1:=Y6 a (by omega)
 have l2:=Y6 b (by omega)
 have q1:=h37 a (by omega)
 have q2:=h37' b (by omega)
 have q3:=h37' a (by omega)
 have q4:=h37c a (by omega)
 simp (config:={ maxSteps:=10000000 }) (disch:=first | assumption | omega | (simp only [O1,N8,N7,M9,F8,Nat.reduceMul,Nat.reduceLT,l9,w9,F3,j6,A8,E8,D8,I5,G9,I9,I8,H7,o9,D5,G8,Nat.reduceAdd,D7,E9,Nat.reduceBEq,G5,F9,d9,j5,l6,z8,D9,F7,F5,F4,G6,C8,q9,A9,q8,l8,l7,E5,C9,G7,IntKind.bits,D6,r9,o7] <;> omega) | assumption) only [a0c,a2j,a2g,a1Z,a2e,a2i,a2a,a2d,a2c,a2b,a2h,a0O,a0X,a1t,a0N,a0Y,a1m,a1b,a0V,a1C,a1l,a1s,a1g,a1A,a1i,a1q,a1h,a1j,a0U,a1z,a1F,a0K,a1w,a1p,a1D,a0J,a1c,a1k,a1y,a1f,a0L,a0S,a0M,a0T,a1x,a0Z,a1B,a0W,a1o,a1e,a1n,a1v,Z9,a0R,a0a,a1u,Z8,a0Q,Z7,a0P,Z6,a1E,a0b,a1r,a3V,a2u,a4b,a2v,a2J,a2F,I7,hA,hB,List.length_map,h34',h35,h39,h36,h38,h44,h96,q1,decide_true,J3,J2,V9,F7,F5,F4,G9,U4,o9,D5,H9,Nat.reduceMul,ap9,a0u,a0s,a1L,a1K,Z4,X5,Y7,V3,X3,a0r,bn,un,U0,V5,U6,a1P,J6,I4,K3,J4,U3,P7,P9,r9,o7,J3,J2,X4,Y3,M6,K6,V.e1g,Q9,R5,P8,R7,Q7,a0l,d9,j5,l6,T9,R9,U9,P5,O5,l9,w9,j6,H7,M7,M8,Q8,Y5,a0D,R8,K8,M5,V8,H9,I6,F6,K9,M0,O6,S9,J5,J7,G8,Nat.add_zero,Nat.reduceAdd,U5,Q0,R3,a0q,V7]
 exact H6.done ⟨by simp only [X8,N9,List.append_nil],fun i hi=>by simp (config:={ maxSteps:=10000000 }) (disch:=first | assumption | omega | (simp only [O1,N8,N7,M9,F8,Nat.reduceMul,Nat.reduceLT,l9,w9,F3,j6,A8,E8,D8,I5,G9,I9,I8,H7,o9,D5,G8,Nat.reduceAdd,D7,E9,Nat.reduceBEq,G5,F9,d9,j5,l6,z8,D9,F7,F5,F4,G6,C8,q9,A9,q8,l8,l7,E5,C9,G7,IntKind.bits,D6,r9,o7] <;> omega) | assumption) only [F6]⟩
theorem d8t (N:Nat) (call Y2 call3:o8) (X:Ins) (tv lv:Value) (a b:Nat) (hA:X.A=.ofNat a) (hB:X.B=.ofNat b) (ha:a<4294967296) (hb:b<4294967296)
 (c:Nat) (h:Trie VObj) (h34:∀ hh,(∀ b,b<c→hh.get b=h.get b)→∃ z:List Nat→List Nat, ∀ r w,go (call 34 [I7 X tv lv]) ⟨c+1,hh,r,w⟩=some (.ret (.bool true),⟨c+1,hh,z r,w⟩))
 (C:Calls12 N call Y2 call3 X 7)
 (Ht:Q6 c h tv (P6 X.types)) (Hl:Q6 c h lv (P6 X.labels)) (r w:List Nat) :
 H6 (go (a0c H8 N call (I7 X tv lv)) ⟨c,h,r,w⟩) fun x s=>x=.ret (.string ⟨⟨M4 (V4 X.op) (X8 a)⟩⟩)∧∀ i,i<c→s.h.get i=h.get i:=by
 obtain ⟨z,h34'⟩:=h34 (upd h c (.cells [(.int .i64 X.op, 0),(.int .i64 X.A, 0),(.int .i64 X.B, 0),(.int .u64 (Int.ofNat X.N), 0),(.int .i64 X.k, 0),(.int .i64 X.v, 0),(.int .i64 X.i, 0),(tv, 0),(lv, 0)] 0 false)) (fun b hb=>F6 (by omega))
 obtain ⟨h35,h39,h36,h36',h37c,h37,h37',h38,h44,h96⟩:=C
 obtain ⟨ta,te,rfl,_⟩:=id Ht
 obtain ⟨la,le,rfl,_⟩:=id Hl
 simp only [I7,hA,hB,List.length_map] at h34'
 have nl:=X9 X.op
 have l1:=Y6 a (by omega)
 have l2:=Y6 b (by omega)
 have q1:=h37 a (by omega)
 have q2:=h37' b (by omega)
 have q3:=h37' a (by omega)
 have q4:=h37c a (by omega)
 simp (config:={ maxSteps:=10000000 }) (disch:=first | assumption | omega | (simp only [O1,N8,N7,M9,F8,Nat.reduceMul,Nat.reduceLT,l9,w9,F3,j6,A8,E8,D8,I5,G9,I9,I8,H7,o9,D5,G8,Nat.reduceAdd,D7,E9,Nat.reduceBEq,G5,F9,d9,j5,l6,z8,D9,F7,F5,F4,G6,C8,q9,A9,q8,l8,l7,E5,C9,G7,IntKind.bits,D6,r9,o7] <;> omega) | assumption) only [a0c,a2j,a2g,a1Z,a2e,a2i,a2a,a2d,a2c,a2b,a2h,a0O,a0X,a1t,a0N,a0Y,a1m,a1b,a0V,a1C,a1l,a1s,a1g,a1A,a1i,a1q,a1h,a1j,a0U,a1z,a1F,a0K,a1w,a1p,a1D,a0J,a1c,a1k,a1y,a1f,a0L,a0S,a0M,a0T,a1x,a0Z,a1B,a0W,a1o,a1e,a1n,a1v,Z9,a0R,a0a,a1u,Z8,a0Q,Z7,a0P,Z6,a1E,a0b,a1r,a3V,a2u,a4b,a2v,a2J,a2F,I7,hA,hB,List.length_map,h34',h35,h39,h36,h38,h44,h96,q1,decide_true,J3,J2,V9,F7,F5,F4,G9,U4,o9,D5,H9,Nat.reduceMul,ap9,a0u,a0s,a1L,a1K,Z4,X5,Y7,V3,X3,a0r,bn,un,U0,V5,U6,a1P,J6,I4,K3,J4,U3,P7,P9,r9,o7,J3,J2,X4,Y3,M6,K6,V.e1g,Q9,R5,P8,R7,Q7,a0l,d9,j5,l6,T9,R9,U9,P5,O5,l9,w9,j6,H7,M7,M8,Q8,Y5,a0D,R8,K8,M5,V8,H9,I6,F6,K9,M0,O6,S9,J5,J7,G8,Nat.add_zero,Nat.reduceAdd,U5,Q0,R3,a0q,V7]
 exact H6.done ⟨by simp only [X8,N9,List.append_nil],fun i hi=>by simp (config:={ maxSteps:=10000000 }) (disch:=first | assumption | omega | (simp only [O1,N8,N7,M9,F8,Nat.reduceMul,Nat.reduceLT,l9,w9,F3,j6,A8,E8,D8,I5,G9,I9,I8,H7,o9,D5,G8,Nat.reduceAdd,D7,E9,Nat.reduceBEq,G5,F9,d9,j5,l6,z8,D9,F7,F5,F4,G6,C8,q9,A9,q8,l8,l7,E5,C9,G7,IntKind.bits,D6,r9,o7] <;> omega) | assumption) only [F6]⟩
theorem d6y (N:Nat) (call Y2 call3:o8) (X:Ins) (tv lv:Value) (a b:Nat) (hA:X.A=.ofNat a) (hB:X.B=.ofNat b) (ha:a<4294967296) (hb:b<4294967296)
 (c:Nat) (h:Trie VObj) (h34:∀ hh,(∀ b,b<c→hh.get b=h.get b)→∃ z:List Nat→List Nat, ∀ r w,go (call 34 [I7 X tv lv]) ⟨c+1,hh,r,w⟩=some (.ret (.bool true),⟨c+1,hh,z r,w⟩))
 (C:Calls12 N call Y2 call3 X 8)
 (Ht:Q6 c h tv (P6 X.types)) (Hl:Q6 c h lv (P6 X.labels)) (r w:List Nat) :
 H6 (go (a0c H8 N call (I7 X tv lv)) ⟨c,h,r,w⟩) fun x s=>x=.ret (.string ⟨⟨M4 (V4 X.op) (X8 a)⟩⟩)∧∀ i,i<c→s.h.get i=h.get i:=by
 obtain ⟨z,h34'⟩:=h34 (upd h c (.cells [(.int .i64 X.op, 0),(.int .i64 X.A, 0),(.int .i64 X.B, 0),(.int .u64 (Int.ofNat X.N), 0),(.int .i64 X.k, 0),(.int .i64 X.v, 0),(.int .i64 X.i, 0),(tv, 0),(lv, 0)] 0 false)) (fun b hb=>F6 (by omega))
 obtain ⟨h35,h39,h36,h36',h37c,h37,h37',h38,h44,h96⟩:=C
 obtain ⟨ta,te,rfl,_⟩:=id Ht
 obtain ⟨la,le,rfl,_⟩:=id Hl
 simp only [I7,hA,hB,List.length_map] at h34'
 have nl:=X9 X.op
 have l1:=Y6 a (by omega)
 have l2:=Y6 b (by omega)
 have q1:=h37 a (by omega)
 have q2:=h37' b (by omega)
 have q3:=h37' a (by omega)
 have q4:=h37c a (by omega)
 simp (config:={ maxSteps:=10000000 }) (disch:=first | assumption | omega | (simp only [O1,N8,N7,M9,F8,Nat.reduceMul,Nat.reduceLT,l9,w9,F3,j6,A8,E8,D8,I5,G9,I9,I8,H7,o9,D5,G8,Nat.reduceAdd,D7,E9,Nat.reduceBEq,G5,F9,d9,j5,l6,z8,D9,F7,F5,F4,G6,C8,q9,A9,q8,l8,l7,E5,C9,G7,IntKind.bits,D6,r9,o7] <;> omega) | assumption) only [a0c,a2j,a2g,a1Z,a2e,a2i,a2a,a2d,a2c,a2b,a2h,a0O,a0X,a1t,a0N,a0Y,a1m,a1b,a0V,a1C,a1l,a1s,a1g,a1A,a1i,a1q,a1h,a1j,a0U,a1z,a1F,a0K,a1w,a1p,a1D,a0J,a1c,a1k,a1y,a1f,a0L,a0S,a0M,a0T,a1x,a0Z,a1B,a0W,a1o,a1e,a1n,a1v,Z9,a0R,a0a,a1u,Z8,a0Q,Z7,a0P,Z6,a1E,a0b,a1r,a3V,a2u,a4b,a2v,a2J,a2F,I7,hA,hB,List.length_map,h34',h35,h39,h36,h38,h44,h96,q1,decide_true,J3,J2,V9,F7,F5,F4,G9,U4,o9,D5,H9,Nat.reduceMul,ap9,a0u,a0s,a1L,a1K,Z4,X5,Y7,V3,X3,a0r,bn,un,U0,V5,U6,a1P,J6,I4,K3,J4,U3,P7,P9,r9,o7,J3,J2,X4,Y3,M6,K6,V.e1g,Q9,R5,P8,R7,Q7,a0l,d9,j5,l6,T9,R9,U9,P5,O5,l9,w9,j6,H7,M7,M8,Q8,Y5,a0D,R8,K8,M5,V8,H9,I6,F6,K9,M0,O6,S9,J5,J7,G8,Nat.add_zero,Nat.reduceAdd,U5,Q0,R3,a0q,V7]
 exact H6.done ⟨by simp only [X8,N9,List.append_nil],fun i hi=>by simp (config:={ maxSteps:=10000000 }) (disch:=first | assumption | omega | (simp only [O1,N8,N7,M9,F8,Nat.reduceMul,Nat.reduceLT,l9,w9,F3,j6,A8,E8,D8,I5,G9,I9,I8,H7,o9,D5,G8,Nat.reduceAdd,D7,E9,Nat.reduceBEq,G5,F9,d9,j5,l6,z8,D9,F7,F5,F4,G6,C8,q9,A9,q8,l8,l7,E5,C9,G7,IntKind.bits,D6,r9,o7] <;> omega) | assumption) only [F6]⟩
theorem d2B (N:Nat) (call Y2 call3:o8) (X:Ins) (tv lv:Value) (a b:Nat) (hA:X.A=.ofNat a) (hB:X.B=.ofNat b) (ha:a<4294967296) (hb:b<4294967296)
 (c:Nat) (h:Trie VObj) (h34:∀ hh,(∀ b,b<c→hh.get b=h.get b)→∃ z:List Nat→List Nat, ∀ r w,go (call 34 [I7 X tv lv]) ⟨c+1,hh,r,w⟩=some (.ret (.bool true),⟨c+1,hh,z r,w⟩))
 (C:Calls12 N call Y2 call3 X 12)
 (Ht:Q6 c h tv (P6 X.types)) (Hl:Q6 c h lv (P6 X.labels)) (r w:List Nat) :
 H6 (go (a0c H8 N call (I7 X tv lv)) ⟨c,h,r,w⟩) fun x s=>x=.ret (.string ⟨⟨M4 (V4 X.op) (X8 a)⟩⟩)∧∀ i,i<c→s.h.get i=h.get i:=by
 obtain ⟨z,h34'⟩:=h34 (upd h c (.cells [(.int .i64 X.op, 0),(.int .i64 X.A, 0),(.int .i64 X.B, 0),(.int .u64 (Int.ofNat X.N), 0),(.int .i64 X.k, 0),(.int .i64 X.v, 0),(.int .i64 X.i, 0),(tv, 0),(lv, 0)] 0 false)) (fun b hb=>F6 (by omega))
 obtain ⟨h35,h39,h36,h36',h37c,h37,h37',h38,h44,h96⟩:=C
 obtain ⟨ta,te,rfl,_⟩:=id Ht
 obtain ⟨la,le,rfl,_⟩:=id Hl
 simp only [I7,hA,hB,List.length_map] at h34'
 have nl:=X9 X.op
 have l1:=Y6 a (by omega)
 have l2:=Y6 b (by omega)
 have q1:=h37 a (by omega)
 have q2:=h37' b (by omega)
 have q3:=h37' a (by omega)
 have q4:=h37c a (by omega)
 simp (config:={ maxSteps:=10000000 }) (disch:=first | assumption | omega | (simp only [O1,N8,N7,M9,F8,Nat.reduceMul,Nat.reduceLT,l9,w9,F3,j6,A8,E8,D8,I5,G9,I9,I8,H7,o9,D5,G8,Nat.reduceAdd,D7,E9,Nat.reduceBEq,G5,F9,d9,j5,l6,z8,D9,F7,F5,F4,G6,C8,q9,A9,q8,l8,l7,E5,C9,G7,IntKind.bits,D6,r9,o7] <;> omega) | assumption) only [a0c,a2j,a2g,a1Z,a2e,a2i,a2a,a2d,a2c,a2b,a2h,a0O,a0X,a1t,a0N,a0Y,a1m,a1b,a0V,a1C,a1l,a1s,a1g,a1A,a1i,a1q,a1h,a1j,a0U,a1z,a1F,a0K,a1w,a1p,a1D,a0J,a1c,a1k,a1y,a1f,a0L,a0S,a0M,a0T,a1x,a0Z,a1B,a0W,a1o,a1e,a1n,a1v,Z9,a0R,a0a,a1u,Z8,a0Q,Z7,a0P,Z6,a1E,a0b,a1r,a3V,a2u,a4b,a2v,a2J,a2F,I7,hA,hB,List.length_map,h34',h35,h39,h36,h38,h44,h96,q1,decide_true,J3,J2,V9,F7,F5,F4,G9,U4,o9,D5,H9,Nat.reduceMul,ap9,a0u,a0s,a1L,a1K,Z4,X5,Y7,V3,X3,a0r,bn,un,U0,V5,U6,a1P,J6,I4,K3,J4,U3,P7,P9,r9,o7,J3,J2,X4,Y3,M6,K6,V.e1g,Q9,R5,P8,R7,Q7,a0l,d9,j5,l6,T9,R9,U9,P5,O5,l9,w9,j6,H7,M7,M8,Q8,Y5,a0D,R8,K8,M5,V8,H9,I6,F6,K9,M0,O6,S9,J5,J7,G8,Nat.add_zero,Nat.reduceAdd,U5,Q0,R3,a0q,V7]
 exact H6.done ⟨by simp only [X8,N9,List.append_nil],fun i hi=>by simp (config:={ maxSteps:=10000000 }) (disch:=first | assumption | omega | (simp only [O1,N8,N7,M9,F8,Nat.reduceMul,Nat.reduceLT,l9,w9,F3,j6,A8,E8,D8,I5,G9,I9,I8,H7,o9,D5,G8,Nat.reduceAdd,D7,E9,Nat.reduceBEq,G5,F9,d9,j5,l6,z8,D9,F7,F5,F4,G6,C8,q9,A9,q8,l8,l7,E5,C9,G7,IntKind.bits,D6,r9,o7] <;> omega) | assumption) only [F6]⟩
theorem d2y (N:Nat) (call Y2 call3:o8) (X:Ins) (tv lv:Value) (a b:Nat) (hA:X.A=.ofNat a) (hB:X.B=.ofNat b) (ha:a<4294967296) (hb:b<4294967296)
 (c:Nat) (h:Trie VObj) (h34:∀ hh,(∀ b,b<c→hh.get b=h.get b)→∃ z:List Nat→List Nat, ∀ r w,go (call 34 [I7 X tv lv]) ⟨c+1,hh,r,w⟩=some (.ret (.bool true),⟨c+1,hh,z r,w⟩))
 (C:Calls12 N call Y2 call3 X 16)
 (Ht:Q6 c h tv (P6 X.types)) (Hl:Q6 c h lv (P6 X.labels)) (r w:List Nat) :
 H6 (go (a0c H8 N call (I7 X tv lv)) ⟨c,h,r,w⟩) fun x s=>x=.ret (.string ⟨⟨M4 (V4 X.op) (X8 a)⟩⟩)∧∀ i,i<c→s.h.get i=h.get i:=by
 obtain ⟨z,h34'⟩:=h34 (upd h c (.cells [(.int .i64 X.op, 0),(.int .i64 X.A, 0),(.int .i64 X.B, 0),(.int .u64 (Int.ofNat X.N), 0),(.int .i64 X.k, 0),(.int .i64 X.v, 0),(.int .i64 X.i, 0),(tv, 0),(lv, 0)] 0 false)) (fun b hb=>F6 (by omega))
 obtain ⟨h35,h39,h36,h36',h37c,h37,h37',h38,h44,h96⟩:=C
 obtain ⟨ta,te,rfl,_⟩:=id Ht
 obtain ⟨la,le,rfl,_⟩:=id Hl
 simp only [I7,hA,hB,List.length_map] at h34'
 have nl:=X9 X.op
 have l1:=Y6 a (by omega)
 have l2:=Y6 b (by omega)
 have q1:=h37 a (by omega)
 have q2:=h37' b (by omega)
 have q3:=h37' a (by omega)
 have q4:=h37c a (by omega)
 simp (config:={ maxSteps:=10000000 }) (disch:=first | assumption | omega | (simp only [O1,N8,N7,M9,F8,Nat.reduceMul,Nat.reduceLT,l9,w9,F3,j6,A8,E8,D8,I5,G9,I9,I8,H7,o9,D5,G8,Nat.reduceAdd,D7,E9,Nat.reduceBEq,G5,F9,d9,j5,l6,z8,D9,F7,F5,F4,G6,C8,q9,A9,q8,l8,l7,E5,C9,G7,IntKind.bits,D6,r9,o7] <;> omega) | assumption) only [a0c,a2j,a2g,a1Z,a2e,a2i,a2a,a2d,a2c,a2b,a2h,a0O,a0X,a1t,a0N,a0Y,a1m,a1b,a0V,a1C,a1l,a1s,a1g,a1A,a1i,a1q,a1h,a1j,a0U,a1z,a1F,a0K,a1w,a1p,a1D,a0J,a1c,a1k,a1y,a1f,a0L,a0S,a0M,a0T,a1x,a0Z,a1B,a0W,a1o,a1e,a1n,a1v,Z9,a0R,a0a,a1u,Z8,a0Q,Z7,a0P,Z6,a1E,a0b,a1r,a3V,a2u,a4b,a2v,a2J,a2F,I7,hA,hB,List.length_map,h34',h35,h39,h36,h38,h44,h96,q1,decide_true,J3,J2,V9,F7,F5,F4,G9,U4,o9,D5,H9,Nat.reduceMul,ap9,a0u,a0s,a1L,a1K,Z4,X5,Y7,V3,X3,a0r,bn,un,U0,V5,U6,a1P,J6,I4,K3,J4,U3,P7,P9,r9,o7,J3,J2,X4,Y3,M6,K6,V.e1g,Q9,R5,P8,R7,Q7,a0l,d9,j5,l6,T9,R9,U9,P5,O5,l9,w9,j6,H7,M7,M8,Q8,Y5,a0D,R8,K8,M5,V8,H9,I6,F6,K9,M0,O6,S9,J5,J7,G8,Nat.add_zero,Nat.reduceAdd,U5,Q0,R3,a0q,V7]
 exact H6.done ⟨by simp only [X8,N9,List.append_nil],fun i hi=>by simp (config:={ maxSteps:=10000000 }) (disch:=first | assumption | omega | (simp only [O1,N8,N7,M9,F8,Nat.reduceMul,Nat.reduceLT,l9,w9,F3,j6,A8,E8,D8,I5,G9,I9,I8,H7,o9,D5,G8,Nat.reduceAdd,D7,E9,Nat.reduceBEq,G5,F9,d9,j5,l6,z8,D9,F7,F5,F4,G6,C8,q9,A9,q8,l8,l7,E5,C9,G7,IntKind.bits,D6,r9,o7] <;> omega) | assumption) only [F6]⟩
theorem d0J (N:Nat) (call Y2 call3:o8) (X:Ins) (tv lv:Value) (a b:Nat) (hA:X.A=.ofNat a) (hB:X.B=.ofNat b) (ha:a<4294967296) (hb:b<4294967296) (h43:call 43 [.int .i64 X.A]=M.pure (.ret (.string ⟨⟨bcase (decide (X.A=3)) [102, 117, 110, 99] [101, 120, 116, 101, 114, 110]⟩⟩)))
 (c:Nat) (h:Trie VObj) (h34:∀ hh,(∀ b,b<c→hh.get b=h.get b)→∃ z:List Nat→List Nat, ∀ r w,go (call 34 [I7 X tv lv]) ⟨c+1,hh,r,w⟩=some (.ret (.bool true),⟨c+1,hh,z r,w⟩))
 (C:Calls12 N call Y2 call3 X 20)
 (Ht:Q6 c h tv (P6 X.types)) (Hl:Q6 c h lv (P6 X.labels)) (r w:List Nat) :
 H6 (go (a0c H8 N call (I7 X tv lv)) ⟨c,h,r,w⟩) fun x s=>x=.ret (.string ⟨⟨M4 (V4 X.op) (bcase (decide (X.A=3)) (32::[102, 117, 110, 99]) (32::[101, 120, 116, 101, 114, 110]))⟩⟩)∧∀ i,i<c→s.h.get i=h.get i:=by
 obtain ⟨z,h34'⟩:=h34 (upd h c (.cells [(.int .i64 X.op, 0),(.int .i64 X.A, 0),(.int .i64 X.B, 0),(.int .u64 (Int.ofNat X.N), 0),(.int .i64 X.k, 0),(.int .i64 X.v, 0),(.int .i64 X.i, 0),(tv, 0),(lv, 0)] 0 false)) (fun b hb=>F6 (by omega))
 rw [hA] at h43
 rw [hA]
 have e3:decide (Int.ofNat a=(3:Int))=a.beq 3:=V9 a 3
 rw [e3] at h43
 rw [e3]
 obtain ⟨h35,h39,h36,h36',h37c,h37,h37',h38,h44,h96⟩:=C
 obtain ⟨ta,te,rfl,_⟩:=id Ht
 obtain ⟨la,le,rfl,_⟩:=id Hl
 simp only [I7,hA,hB,List.length_map] at h34'
 have nl:=X9 X.op
 have l1:=Y6 a (by omega)
 have l2:=Y6 b (by omega)
 have q1:=h37 a (by omega)
 have q2:=h37' b (by omega)
 have q3:=h37' a (by omega)
 have q4:=h37c a (by omega)
 cases hz:a.beq 3 with
 | true=>
   simp (config:={ maxSteps:=10000000 }) (disch:=first | assumption | omega | (simp only [O1,N8,N7,M9,F8,Nat.reduceMul,Nat.reduceLT,l9,w9,F3,j6,A8,E8,D8,I5,G9,I9,I8,H7,o9,D5,G8,Nat.reduceAdd,D7,E9,Nat.reduceBEq,G5,F9,d9,j5,l6,z8,D9,F7,F5,F4,G6,C8,q9,A9,q8,l8,l7,E5,C9,G7,IntKind.bits,D6,r9,o7] <;> omega) | assumption) only [a0c,a2j,a2g,a1Z,a2e,a2i,a2a,a2d,a2c,a2b,a2h,a0O,a0X,a1t,a0N,a0Y,a1m,a1b,a0V,a1C,a1l,a1s,a1g,a1A,a1i,a1q,a1h,a1j,a0U,a1z,a1F,a0K,a1w,a1p,a1D,a0J,a1c,a1k,a1y,a1f,a0L,a0S,a0M,a0T,a1x,a0Z,a1B,a0W,a1o,a1e,a1n,a1v,Z9,a0R,a0a,a1u,Z8,a0Q,Z7,a0P,Z6,a1E,a0b,a1r,b5w,a2J,a2F,I7,hA,hB,List.length_map,h34',h35,h39,h38,h44,h96,h43,hz,decide_true,J3,J2,V9,F7,F4,G9,U4,o9,D5,H9,Nat.reduceMul,ap9,a0u,a0s,a1L,a1K,Z4,X5,Y7,V3,X3,a0r,bn,un,U0,V5,U6,a1P,J6,I4,K3,J4,U3,P7,P9,r9,o7,J3,J2,X4,Y3,M6,K6,V.e1g,Q9,R5,P8,R7,Q7,a0l,d9,j5,l6,T9,R9,U9,P5,O5,l9,w9,j6,H7,M7,M8,Q8,Y5,a0D,R8,K8,M5,V8,H9,I6,F6,K9,M0,O6,S9,J5,J7,G8,Nat.add_zero,Nat.reduceAdd,U5,Q0,R3,a0q,V7]
   exact H6.done ⟨by simp only [N9],fun i hi=>by simp (config:={ maxSteps:=10000000 }) (disch:=first | assumption | omega | (simp only [O1,N8,N7,M9,F8,Nat.reduceMul,Nat.reduceLT,l9,w9,F3,j6,A8,E8,D8,I5,G9,I9,I8,H7,o9,D5,G8,Nat.reduceAdd,D7,E9,Nat.reduceBEq,G5,F9,d9,j5,l6,z8,D9,F7,F5,F4,G6,C8,q9,A9,q8,l8,l7,E5,C9,G7,IntKind.bits,D6,r9,o7] <;> omega) | assumption) only [F6]⟩
 | false=>
   simp (config:={ maxSteps:=10000000 }) (disch:=first | assumption | omega | (simp only [O1,N8,N7,M9,F8,Nat.reduceMul,Nat.reduceLT,l9,w9,F3,j6,A8,E8,D8,I5,G9,I9,I8,H7,o9,D5,G8,Nat.reduceAdd,D7,E9,Nat.reduceBEq,G5,F9,d9,j5,l6,z8,D9,F7,F5,F4,G6,C8,q9,A9,q8,l8,l7,E5,C9,G7,IntKind.bits,D6,r9,o7] <;> omega) | assumption) only [a0c,a2j,a2g,a1Z,a2e,a2i,a2a,a2d,a2c,a2b,a2h,a0O,a0X,a1t,a0N,a0Y,a1m,a1b,a0V,a1C,a1l,a1s,a1g,a1A,a1i,a1q,a1h,a1j,a0U,a1z,a1F,a0K,a1w,a1p,a1D,a0J,a1c,a1k,a1y,a1f,a0L,a0S,a0M,a0T,a1x,a0Z,a1B,a0W,a1o,a1e,a1n,a1v,Z9,a0R,a0a,a1u,Z8,a0Q,Z7,a0P,Z6,a1E,a0b,a1r,b5w,a2J,a2F,I7,hA,hB,List.length_map,h34',h35,h39,h38,h44,h96,h43,hz,decide_true,J3,J2,V9,F7,F4,G9,U4,o9,D5,H9,Nat.reduceMul,ap9,a0u,a0s,a1L,a1K,Z4,X5,Y7,V3,X3,a0r,bn,un,U0,V5,U6,a1P,J6,I4,K3,J4,U3,P7,P9,r9,o7,J3,J2,X4,Y3,M6,K6,V.e1g,Q9,R5,P8,R7,Q7,a0l,d9,j5,l6,T9,R9,U9,P5,O5,l9,w9,j6,H7,M7,M8,Q8,Y5,a0D,R8,K8,M5,V8,H9,I6,F6,K9,M0,O6,S9,J5,J7,G8,Nat.add_zero,Nat.reduceAdd,U5,Q0,R3,a0q,V7]
   exact H6.done ⟨by simp only [N9],fun i hi=>by simp (config:={ maxSteps:=10000000 }) (disch:=first | assumption | omega | (simp only [O1,N8,N7,M9,F8,Nat.reduceMul,Nat.reduceLT,l9,w9,F3,j6,A8,E8,D8,I5,G9,I9,I8,H7,o9,D5,G8,Nat.reduceAdd,D7,E9,Nat.reduceBEq,G5,F9,d9,j5,l6,z8,D9,F7,F5,F4,G6,C8,q9,A9,q8,l8,l7,E5,C9,G7,IntKind.bits,D6,r9,o7] <;> omega) | assumption) only [F6]⟩
end Go.Proofs.YtmomonnlmbljoaaGreatDoor
end
