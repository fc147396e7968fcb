import Derived.Test.YtmomonnlmbljoaaGreatDoorQao
import Derived.Test.YtmomonnlmbljoaaGreatDoorQas
import Derived.Test.YtmomonnlmbljoaaGreatDoorQau
section
noncomputable section
namespace Go.V
variable {c:Nat} {h:Trie VObj} {r w:List Nat}
def apS {γ:Type} (lt:Bool) (ob:Option VObj) (o g len:Nat) (vs:List Value) (k:List (Value × Nat) → Nat → Bool → Option γ):Option γ:=match lt with
 | true=>match ob with
   | some (.cells cs cur ro)=>match !ro && Nat.ble (o + len) (M4 cs) with
     | true=>match a0w g (a3l cs o) len with
       | some _=>k (M6 (a6d cs (o + len)) (a2m (fun v=>(v,cur + 1)) vs)) cur ro
       | none=>none
     | false=>none
   | _=>none
 | false=>none
theorem a0P {γ:Type} (cs:List (Value × Nat)) (cur:Nat) (ro:Bool) (o g len:Nat) (vs:List Value) (k:List (Value × Nat) → Nat → Bool → Option γ) (e:(!ro && Nat.ble (o + len) (M4 cs))=true) :
 apS true (some (.cells cs cur ro)) o g len vs k=oS (a0w g (a3l cs o) len) fun _=>k (M6 (a6d cs (o + len)) (a2m (fun v=>(v,cur + 1)) vs)) cur ro:=by
 unfold apS oS; simp only [e]
 cases a0w g (a3l cs o) len <;> simp only
theorem a3c {γ:Type} {lt lt':Bool} {ob ob':Option VObj} (o g len:Nat) (vs:List Value) (k:List (Value × Nat) → Nat → Bool → Option γ) (h1:lt=lt') (h2:ob=ob'):apS lt ob o g len vs k=apS lt' ob' o g len vs k:=by rw [h1,h2]
theorem b2w {α β:Type} (m:M α) (k:α → M β) (s:S):M.bind m k s=a3u (go m s) fun a=>k a:=by rw [← K6]; rfl
theorem b8x {e:TI} (e1:e.size=1) (e2:Nat.blt e.bytes 4096=true) (ab o g n:Nat) (vs:List Value) (hv:vs ≠ []) (ho:a0N a1c vs=true) (hl:(n + M4 vs) * 4 < a6w) :
 go (a4s e (.slice (some ⟨ab,o,some g⟩) n 1) vs) ⟨c,h,r,w⟩=apS (Nat.blt ab c) (h.get ab) o g n vs fun cs' cur ro=>some (.slice (some ⟨ab,o,some (cur + 1)⟩) (n + M4 vs) 1,⟨c,upd h ab (.cells cs' (cur + 1) ro),ab :: r,ab :: w⟩):=by
 cases vs with
 | nil=>exact absurd rfl hv
 | cons v vs=>
   have hlen:M4 (v :: vs)=M4 vs + 1:=rfl
   rw [hlen] at hl
   have e3:Nat.blt ((n + (M4 vs + 1)) * 4) a6w=true:=by rw [Nat.blt_eq]; exact hl
   have e4:Nat.beq ((M4 vs + 1) / 1 * 1) (M4 vs + 1)=true:=by rw [Nat.div_one,Nat.mul_one]; exact Nat.beq_refl _
   show a4s e _ _ _=_
   unfold a4s
   simp only [a5B,e1,ho,Nat.div_one,Nat.mul_one,e3,e2,j4,Bool.and_self,Q8]
   unfold appendAt apS
   simp only [P7,e1,Nat.mul_one]
   rw [b2w]
   show a3u (rd ab ⟨c,h,r,w⟩) _=_
   rw [c1E]
   cases hb:Nat.blt ab c with
   | false=>rfl
   | true=>cases hob:h.get ab with
     | none=>rfl
     | some ob=>cases ob with
       | cells cs cur ro=>
         simp only [I8,a8y]
         cases hro:!ro with
         | false=>rfl
         | true=>
           cases hble:Nat.ble (o + n) (M4 cs) with
           | false=>rfl
           | true=>
             simp only [Q8,Bool.and_self]
             cases a0w g (a3l cs o) n with
             | none=>rfl
             | some _=>
               simp only [P7,a3m]
               rw [K6]
               show a3u (wr ab _ _) _=_
               rw [c1S,hb,hob]
               rfl
       | _=>rfl
theorem b5g {e:TI} (e1:e.size=1) (e2:Nat.blt e.bytes 4096=true) (es:Nat) (vs:List Value) (hv:vs ≠ []) (ho:a0N a1c vs=true) (hl:(M4 vs) * 4 < a6w) :
 go (a4s e (.slice none 0 es) vs) ⟨c,h,r,w⟩=some (.slice (some ⟨c, 0,some 0⟩) (M4 vs) 1,⟨c + 1,upd h c (.cells (a2m (fun v=>(v, 0)) vs) 0 false),r,c :: w⟩):=by
 cases vs with
 | nil=>exact absurd rfl hv
 | cons v vs=>
   have hlen:M4 (v :: vs)=M4 vs + 1:=rfl
   rw [hlen] at hl
   have e3:Nat.blt ((0 + (M4 vs + 1)) * 4) a6w=true:=by rw [Nat.blt_eq,Nat.zero_add]; exact hl
   show a4s e _ _ _=_
   unfold a4s
   simp only [a5B,e1,ho,Nat.div_one,Nat.mul_one,e3,e2,j4,Bool.and_self,Q8]
   rw [b2w,a6r (e:=ho),I8]
   rfl
def apC (n:Nat) (vs:List Value):Bool:=match vs with
 | []=>false
 | v :: vs=>a0N a1c (v :: vs) && Nat.blt ((n + M4 (v :: vs)) * 4) 4294967296
theorem a0Q (n:Nat) (v:Value) (vs:List Value):apC n (v :: vs)=(a0N a1c (v :: vs) && Nat.blt ((n + M4 (v :: vs)) * 4) 4294967296):=Eq.trans rfl rfl
theorem b9A {n:Nat} {vs:List Value} (h:apC n vs=true):vs ≠ [] ∧ a0N a1c vs=true ∧ (n + M4 vs) * 4 < a6w:=by
 cases vs with
 | nil=>cases h
 | cons v vs=>
   rw [a0Q,Bool.and_eq_true,Nat.blt_eq] at h
   exact ⟨by simp,h⟩
theorem b2j {e:TI} (e1:e.size=1) (e2:Nat.blt e.bytes 4096=true) (b:Option Addr) (n es:Nat) (vs:List Value) (hv:vs ≠ []) (hc:apC n vs=false):go (a4s e (.slice b n es) vs) ⟨c,h,r,w⟩=none:=by
 cases vs with
 | nil=>exact absurd rfl hv
 | cons v vs=>
   show a4s e _ _ _=_
   rw [a0Q] at hc
   have e5:(a0N a1c (v :: vs) && Nat.blt ((n + (M4 vs + 1)) * 4) a6w)=false:=hc
   unfold a4s
   simp only [a5B,e1,Nat.div_one,Nat.mul_one,e2,j4,Bool.true_and,Bool.and_true,e5]
   rfl
theorem c7v {g:Nat} {cs:List (Value × Nat)} {m:Nat} {vs:List Value} (h:a0w g cs (m + 1)=some vs):vs ≠ []:=by
 cases cs with
 | nil=>cases h
 | cons x cs=>
   have h':(match Nat.ble x.2 g with | true=>(match a0w g cs m with | some vs=>some (x.1 :: vs) | none=>none) | false=>none)=some vs:=h
   split at h'
   · split at h'
     · cases h'; simp
     · cases h'
   · cases h'
theorem b4E (xb ox gx m:Nat):a8W 1 (.slice (some ⟨xb,ox,some gx⟩) (m + 1) 1)=loadN ⟨xb,ox,some gx⟩ ((m + 1) * 1):=Eq.trans rfl rfl
theorem c2C (m xb ox gx:Nat) (k:List Value → M Value) (k':List Value → Option (Value × S)) (hk:∀ vs,vs ≠ [] → go (k vs) ⟨c,h,xb :: r,w⟩=k' vs) :
 a3u (ldS (Nat.blt xb c) (h.get xb) ox gx (m + 1) fun vs=>some (vs,⟨c,h,xb :: r,w⟩)) k=ldS (Nat.blt xb c) (h.get xb) ox gx (m + 1) k':=by
 unfold ldS
 cases Nat.blt xb c with
 | false=>rfl
 | true=>cases h.get xb with
   | none=>rfl
   | some ob=>cases ob with
     | cells cs cur ro=>
       show a3u (match a0w gx (a3l cs ox) (m + 1) with | some vs=>some (vs,_) | none=>none) k=(match a0w gx (a3l cs ox) (m + 1) with | some vs=>k' vs | none=>none)
       cases ht:a0w gx (a3l cs ox) (m + 1) with
       | none=>rfl
       | some vs=>exact hk vs (c7v ht)
     | _=>rfl
theorem c8I {e:TI} (e1:e.size=1) (e2:Nat.blt e.bytes 4096=true) (ab o g n xb ox gx m:Nat) :
 go (a4g e (.slice (some ⟨ab,o,some g⟩) n 1) (.slice (some ⟨xb,ox,some gx⟩) (m + 1) 1)) ⟨c,h,r,w⟩=ldS (Nat.blt xb c) (h.get xb) ox gx (m + 1) fun vs=>
  bcase (apC n vs) (apS (Nat.blt ab c) (h.get ab) o g n vs fun cs' cur ro=>some (.slice (some ⟨ab,o,some (cur + 1)⟩) (n + M4 vs) 1,⟨c,upd h ab (.cells cs' (cur + 1) ro),ab :: xb :: r,ab :: w⟩)) none:=by
 unfold a4g
 rw [e1,b4E,Nat.mul_one,K6,a6N]
 refine c2C m xb ox gx _ _ fun vs hv=>?_
 rw [a3m]
 cases hc:apC n vs with
 | false=>exact b2j e1 e2 _ n 1 vs hv hc
 | true=>
   obtain ⟨h1,h2,h3⟩:=b9A hc
   exact b8x e1 e2 ab o g n vs h1 h2 h3
theorem b8W {e:TI} (e1:e.size=1) (e2:Nat.blt e.bytes 4096=true) (es xb ox gx m:Nat) :
 go (a4g e (.slice none 0 es) (.slice (some ⟨xb,ox,some gx⟩) (m + 1) 1)) ⟨c,h,r,w⟩=ldS (Nat.blt xb c) (h.get xb) ox gx (m + 1) fun vs=>
  bcase (apC 0 vs) (some (.slice (some ⟨c, 0,some 0⟩) (M4 vs) 1,⟨c + 1,upd h c (.cells (a2m (fun v=>(v, 0)) vs) 0 false),xb :: r,c :: w⟩)) none:=by
 unfold a4g
 rw [e1,b4E,Nat.mul_one,K6,a6N]
 refine c2C m xb ox gx _ _ fun vs hv=>?_
 rw [a3m]
 cases hc:apC 0 vs with
 | false=>exact b2j e1 e2 _ 0 es vs hv hc
 | true=>
   obtain ⟨h1,h2,h3⟩:=b9A hc
   exact b5g e1 e2 es vs h1 h2 (by rw [Nat.zero_add] at h3; exact h3)
theorem b3w {e:TI} (b:Option Addr) (n es k:Nat):go (a4g e (.slice b n es) (.slice none 0 k)) ⟨c,h,r,w⟩=some (.slice b n es,⟨c,h,r,w⟩):=by
 show go (a4g e _ _) _=_
 unfold a4g
 rw [K6]
 show a3u (go (M.guard true (M.pure [])) _) _=_
 rw [Q8,M0,I8,a3m]
 rfl
theorem b8V {q:List Value → Option (List Value)} {bs:List Value} (e:q bs=some []):go (a6Y q bs) ⟨c,h,r,w⟩=some (.slice none 0 0,⟨c,h,r,w⟩):=by
 show a6Y q bs _=_
 unfold a6Y
 rw [e]; rfl
theorem b0P {q:List Value → Option (List Value)} {bs:List Value} {v:Value} {vs:List Value} (e:q bs=some (v :: vs)) (ho:a0N a1c (v :: vs)=true) :
 go (a6Y q bs) ⟨c,h,r,w⟩=some (.slice (some ⟨c, 0,some 0⟩) (M4 vs + 1) 1,⟨c + 1,upd h c (.cells (a2m (fun v=>(v, 0)) (v :: vs)) 0 false),r,c :: w⟩):=by
 show a6Y q bs _=_
 unfold a6Y
 rw [e]
 rw [P7]
 simp only []
 rw [b2w,a6r (e:=ho),I8]
 rfl
theorem J2:a1c .nilFunc=true:=Eq.trans rfl rfl
theorem I4:(Value.nilFunc).cells.toList=[.nilFunc]:=Eq.trans rfl rfl
theorem Y9 (c:Nat):Nat.beq c (c + 1)=false:=a2j _ _ (by omega)
theorem Y2 (c:Nat):Nat.beq (c + 1) c=false:=a2j _ _ (by omega)
theorem Y1 (c:Nat):Nat.beq c (c + 1 + 1)=false:=a2j _ _ (by omega)
theorem Y8 (c:Nat):Nat.beq (c + 1 + 1) c=false:=a2j _ _ (by omega)
theorem Z5 (c:Nat):Nat.beq c (c + 1 + 1 + 1)=false:=a2j _ _ (by omega)
theorem Y6 (c:Nat):Nat.beq (c + 1 + 1 + 1) c=false:=a2j _ _ (by omega)
theorem Y4 (c:Nat):Nat.beq c (c + 1 + 1 + 1 + 1)=false:=a2j _ _ (by omega)
theorem X9 (c:Nat):Nat.beq (c + 1 + 1 + 1 + 1) c=false:=a2j _ _ (by omega)
theorem Y0 (c:Nat):Nat.beq c (c + 1 + 1 + 1 + 1 + 1)=false:=a2j _ _ (by omega)
theorem X8 (c:Nat):Nat.beq (c + 1 + 1 + 1 + 1 + 1) c=false:=a2j _ _ (by omega)
theorem Z4 (c:Nat):Nat.beq c (c + 1 + 1 + 1 + 1 + 1 + 1)=false:=a2j _ _ (by omega)
theorem Y7 (c:Nat):Nat.beq (c + 1 + 1 + 1 + 1 + 1 + 1) c=false:=a2j _ _ (by omega)
theorem Z0 (c:Nat):Nat.beq c (c + 1 + 1 + 1 + 1 + 1 + 1 + 1)=false:=a2j _ _ (by omega)
theorem Y5 (c:Nat):Nat.beq (c + 1 + 1 + 1 + 1 + 1 + 1 + 1) c=false:=a2j _ _ (by omega)
theorem Z6 (c:Nat):Nat.beq c (c + 1 + 1 + 1 + 1 + 1 + 1 + 1 + 1)=false:=a2j _ _ (by omega)
theorem Z7 (c:Nat):Nat.beq (c + 1 + 1 + 1 + 1 + 1 + 1 + 1 + 1) c=false:=a2j _ _ (by omega)
theorem Y3 (c:Nat):Nat.beq c (c + 1 + 1 + 1 + 1 + 1 + 1 + 1 + 1 + 1)=false:=a2j _ _ (by omega)
theorem X7 (c:Nat):Nat.beq (c + 1 + 1 + 1 + 1 + 1 + 1 + 1 + 1 + 1) c=false:=a2j _ _ (by omega)
theorem R5 (c:Nat):Nat.beq c (c + 1 + 1 + 1 + 1 + 1 + 1 + 1 + 1 + 1 + 1)=false:=a2j _ _ (by omega)
theorem T9 (c:Nat):Nat.beq (c + 1 + 1 + 1 + 1 + 1 + 1 + 1 + 1 + 1 + 1) c=false:=a2j _ _ (by omega)
theorem U2 (c:Nat):Nat.beq c (c + 1 + 1 + 1 + 1 + 1 + 1 + 1 + 1 + 1 + 1 + 1)=false:=a2j _ _ (by omega)
theorem R9 (c:Nat):Nat.beq (c + 1 + 1 + 1 + 1 + 1 + 1 + 1 + 1 + 1 + 1 + 1) c=false:=a2j _ _ (by omega)
theorem U1 (c:Nat):Nat.beq c (c + 1 + 1 + 1 + 1 + 1 + 1 + 1 + 1 + 1 + 1 + 1 + 1)=false:=a2j _ _ (by omega)
theorem R7 (c:Nat):Nat.beq (c + 1 + 1 + 1 + 1 + 1 + 1 + 1 + 1 + 1 + 1 + 1 + 1) c=false:=a2j _ _ (by omega)
theorem R8 (c:Nat):Nat.beq c (c + 1 + 1 + 1 + 1 + 1 + 1 + 1 + 1 + 1 + 1 + 1 + 1 + 1)=false:=a2j _ _ (by omega)
theorem U0 (c:Nat):Nat.beq (c + 1 + 1 + 1 + 1 + 1 + 1 + 1 + 1 + 1 + 1 + 1 + 1 + 1) c=false:=a2j _ _ (by omega)
theorem R6 (c:Nat):Nat.beq c (c + 1 + 1 + 1 + 1 + 1 + 1 + 1 + 1 + 1 + 1 + 1 + 1 + 1 + 1)=false:=a2j _ _ (by omega)
theorem S9 (c:Nat):Nat.beq (c + 1 + 1 + 1 + 1 + 1 + 1 + 1 + 1 + 1 + 1 + 1 + 1 + 1 + 1) c=false:=a2j _ _ (by omega)
theorem a0k:a5m []=some []:=Eq.trans rfl rfl
theorem X6 (s:ByteArray) (vs:List Value):a5m (.string s :: vs)=oS (a5m vs) fun l=>some (s.data.toList :: l):=by
 show (match a5m vs with | some l=>some (s.data.toList :: l) | none=>none)=_
 unfold oS
 cases a5m vs <;> rfl
theorem a0g (sep x:List UInt8) (l:List (List UInt8)):a5V sep (x :: l)=M6 x (a5M sep l):=Eq.trans rfl rfl
theorem V3 (sep:List UInt8):a5M sep []=[]:=Eq.trans rfl rfl
theorem X4 (sep x:List UInt8) (l:List (List UInt8)):a5M sep (x :: l)=M6 sep (M6 x (a5M sep l)):=Eq.trans rfl rfl
theorem a0J (b o g n:Nat) (sep:ByteArray):go (a7M [.slice (some ⟨b,o,some g⟩) (n + 1) 1,.string sep]) ⟨c,h,r,w⟩=ldS (Nat.blt b c) (h.get b) o g (n + 1) fun vs=>oS (a5m vs) fun xs=>
 bcase (Nat.blt n 4294967295 && Nat.blt (M4 (a5V sep.data.toList xs)) 4294967296) (some (.string ⟨⟨a5V sep.data.toList xs⟩⟩,⟨c,h,b :: r,w⟩)) none:=by
 show go (M.bind (loadN ⟨b,o,some g⟩ (n + 1)) fun vs=>M.obind (a5m vs) fun xs=>M.guard (Nat.blt n 4294967295 && Nat.blt (M4 (a5V sep.data.toList xs)) 4294967296) <| M.pure (Value.string ⟨⟨a5V sep.data.toList xs⟩⟩)) _=_
 rw [K6,a6N]
 refine (b3W _ _ _ _ _ _ (fun x=>a3u x fun vs=>M.obind (a5m vs) fun xs=>M.guard (Nat.blt n 4294967295 && Nat.blt (M4 (a5V sep.data.toList xs)) 4294967296) <| M.pure (Value.string ⟨⟨a5V sep.data.toList xs⟩⟩)) rfl).trans ?_
 congr 1
 funext vs
 show go (M.obind (a5m vs) fun xs=>M.guard (Nat.blt n 4294967295 && Nat.blt (M4 (a5V sep.data.toList xs)) 4294967296) <| M.pure (Value.string ⟨⟨a5V sep.data.toList xs⟩⟩)) _=_
 cases a5m vs with
 | none=>rfl
 | some xs=>
   rw [P7,N9]
   cases Nat.blt n 4294967295 && Nat.blt (M4 (a5V sep.data.toList xs)) 4294967296 <;> rfl
theorem U7 (f:Nat) (a b:Array Value) (vs:List Value):a5h (.func (.func f) a b) vs=some (f,M6 a.toList (M6 vs b.toList)):=Eq.trans rfl rfl
end Go.V
end
section
namespace Go.Proofs.YtmomonnlmbljoaaGreatDoor
open Go.V Go.RowKit Go.Shelf Go.Proofs
set_option maxRecDepth 1000000
set_option maxHeartbeats 2000000
set_option linter.unusedVariables false
attribute [local congr] a0b Z9 a0A a0B a0M a0T a3c
variable {mL:Int}
theorem ap9 (ab o g n xb ox gx m:Nat) (c:Nat) (h:Trie VObj) (r w:List Nat) :
 go (a4g ti9 (.slice (some ⟨ab,o,some g⟩) n 1) (.slice (some ⟨xb,ox,some gx⟩) (m + 1) 1)) ⟨c,h,r,w⟩=ldS (Nat.blt xb c) (h.get xb) ox gx (m + 1) fun vs=>
  bcase (apC n vs) (apS (Nat.blt ab c) (h.get ab) o g n vs fun cs' cur ro=>some (.slice (some ⟨ab,o,some (cur + 1)⟩) (n + M4 vs) 1,⟨c,upd h ab (.cells cs' (cur + 1) ro),ab :: xb :: r,ab :: w⟩)) none:=c8I (by kernel_rfl) (by kernel_rfl) ab o g n xb ox gx m
theorem b2G (es xb ox gx m:Nat) (c:Nat) (h:Trie VObj) (r w:List Nat) :
 go (a4g ti9 (.slice none 0 es) (.slice (some ⟨xb,ox,some gx⟩) (m + 1) 1)) ⟨c,h,r,w⟩=ldS (Nat.blt xb c) (h.get xb) ox gx (m + 1) fun vs=>
  bcase (apC 0 vs) (some (.slice (some ⟨c, 0,some 0⟩) (M4 vs) 1,⟨c + 1,upd h c (.cells (a2m (fun v=>(v, 0)) vs) 0 false),xb :: r,c :: w⟩)) none:=b8W (by kernel_rfl) (by kernel_rfl) es xb ox gx m
theorem b4d {α:Type} (x y:α):bcase true x y=x:=Eq.trans rfl rfl
theorem b3X {α:Type} (x y:α):bcase false x y=y:=Eq.trans rfl rfl
theorem a0h (a:Nat) (h:a < 18446744073709551616):M4 (Lib.decDigits a) ≤ 20:=by rw [a0m]; exact a4I _ h
structure Calls12 (N:Nat) (call a0D call3:j5) (X:Ins) (K:Nat):Prop where
 h35:call 35 [.int .i64 X.op]=M.pure (.ret (.string ⟨⟨V7 X.op⟩⟩))
 h39:call 39 [.int .i64 X.op]=M.pure (.ret (.int .i64 (.ofNat K)))
 h36:∀ a b,call 36 [a,b]=a4h G8 N a0D a b
 h36':∀ a b,a0D 36 [a,b]=a4h G8 N call3 a b
 h37c:∀ m:Nat,m < 9223372036854775808 → call 37 [.int .i64 (.ofNat m)]=M.pure (.ret (.string ⟨⟨Lib.decDigits m⟩⟩))
 h37:∀ m:Nat,m < 9223372036854775808 → a0D 37 [.int .i64 (.ofNat m)]=M.pure (.ret (.string ⟨⟨Lib.decDigits m⟩⟩))
 h37':∀ m:Nat,m < 9223372036854775808 → call3 37 [.int .i64 (.ofNat m)]=M.pure (.ret (.string ⟨⟨Lib.decDigits m⟩⟩))
 h38:∀ a b,call 38 [a,b]=a3b G8 N a0D a b
 h44:∀ a,call 44 [a]=a2Z G8 N a0D a
 h96:∀ a b,a0D 96 [a,b]=M.bind (a7M [a,b]) fun v=>M.pure (.ret v)
end Go.Proofs.YtmomonnlmbljoaaGreatDoor
end
section
namespace Go.Proofs.YtmomonnlmbljoaaGreatDoor
open Go.V Go.RowKit Go.Shelf Go.Proofs
set_option maxRecDepth 1000000
set_option maxHeartbeats 4000000
set_option linter.unusedVariables false
attribute [local congr] a0b Z9 a0A a0B a0M a0T a3c
variable {mL:Int}
theorem d6D (N:Nat) (call a0D call3:j5) (X:Ins) (tv lv:Value) (a b:Nat) (hA:X.A=.ofNat a) (hB:X.B=.ofNat b) (ha:a < 4294967296) (hb:b < 4294967296)
 (c:Nat) (h:Trie VObj) (h34:∀ hh,(∀ b,b < c → hh.get b=h.get b) → ∃ z:List Nat → List Nat, ∀ r w,go (call 34 [H7 X tv lv]) ⟨c + 1,hh,r,w⟩=some (.ret (.bool true),⟨c + 1,hh,z r,w⟩))
 (C:Calls12 N call a0D call3 X 0)
 (Ht:P6 c h tv (O9 X.types)) (Hl:P6 c h lv (O9 X.labels)) (r w:List Nat) :
 I6 (go (a0u G8 N call (H7 X tv lv)) ⟨c,h,r,w⟩) fun x s=>x=.ret (.string ⟨⟨M6 (V7 X.op) ([])⟩⟩) ∧ ∀ i,i < c → s.h.get i=h.get i:=by
 obtain ⟨z,h34'⟩:=h34 (upd h c (.cells [(.int .i64 X.op, 0),(.int .i64 X.A, 0),(.int .i64 X.B, 0),(.int .u64 (Int.ofNat X.N), 0),(.int .i64 X.k, 0),(.int .i64 X.v, 0),(.int .i64 X.i, 0),(tv, 0),(lv, 0)] 0 false)) (fun b hb=>E8 (by omega))
 obtain ⟨h35,h39,h36,h36',h37c,h37,h37',h38,h44,h96⟩:=C
 obtain ⟨ta,te,rfl,_⟩:=id Ht
 obtain ⟨la,le,rfl,_⟩:=id Hl
 simp only [H7,hA,hB,List.length_map] at h34'
 have nl:=a0e X.op
 have l1:=a0h a (by omega)
 have l2:=a0h b (by omega)
 have q1:=h37 a (by omega)
 have q2:=h37' b (by omega)
 have q3:=h37' a (by omega)
 have q4:=h37c a (by omega)
 simp (config:={ maxSteps:=10000000 }) (disch:=first | assumption | omega | (simp only [Y9,Y2,Y1,Y8,Z5,Y6,Y4,X9,Y0,X8,Z4,Y7,Z0,Y5,Z6,Z7,Y3,X7,R5,T9,U2,R9,U1,R7,R8,U0,R6,S9,J2,I4,Nat.reduceMul,Nat.reduceLT,q9,C8,G7,F7,l8,D6,q8,F6,F3,Bool.not_false,Bool.not_true,Bool.and_true,Bool.true_and,Bool.and_self,r9,D5,Nat.zero_add,Nat.reduceAdd,j4,F8,Nat.reduceBEq,G9,H6,E5,j6,A8,l7,l6,l9,C9,j4,F4,G6,G5,F9,H8,H9,D7,z8,D9,w9,o8,o9,F5,D8,I7,IntKind.bits,E9,A9,o7] <;> omega) | assumption) only [a0u,a2B,a2t,a2s,a2u,a2z,a2v,a2r,a2w,a2A,a2y,a1r,a1O,a1A,a1q,a1E,a1s,a1g,a1y,a1W,a1J,a1T,a1l,a1X,a1M,a1K,a1j,a1v,a1R,a1P,a1z,a1V,a1L,a1C,a1o,a1m,a1h,a1w,a1t,a1Q,a1S,a1F,a1N,a1Z,a1Y,a1D,a1H,a1f,a1B,a1k,a1G,a1n,a0o,a1u,a0q,a1i,a0t,a1x,a0r,a1p,a0s,a1e,a0p,a1I,a3b,a2Z,H7,hA,hB,List.length_map,h34',h35,h39,h38,h44,h96,K4,J4,V9,G5,Bool.not_true,U7,I5,a0k,X6,a0g,V3,a0J,bn,un,U6,a0d,V6,a2F,K6,I8,M0,J8,U5,O5,O4,A9,o7,K4,J4,l_0,l_s,P5,L9,V.d9Z,P7,Q7,U3,Q0,a0G,j6,l7,l9,U9,V4,a0l,R3,Q5,q9,C8,l8,Bool.and_self,K8,M9,P8,a0j,a0Z,V5,K7,N9,X5,I5,I9,E8,K9,N8,O6,J6,J7,Nat.zero_add,Nat.add_zero,U8,O8,P9]
 exact I6.done ⟨by simp only [M7,List.append_nil],fun i hi=>by simp (config:={ maxSteps:=10000000 }) (disch:=first | assumption | omega | (simp only [Y9,Y2,Y1,Y8,Z5,Y6,Y4,X9,Y0,X8,Z4,Y7,Z0,Y5,Z6,Z7,Y3,X7,R5,T9,U2,R9,U1,R7,R8,U0,R6,S9,J2,I4,Nat.reduceMul,Nat.reduceLT,q9,C8,G7,F7,l8,D6,q8,F6,F3,Bool.not_false,Bool.not_true,Bool.and_true,Bool.true_and,Bool.and_self,r9,D5,Nat.zero_add,Nat.reduceAdd,j4,F8,Nat.reduceBEq,G9,H6,E5,j6,A8,l7,l6,l9,C9,j4,F4,G6,G5,F9,H8,H9,D7,z8,D9,w9,o8,o9,F5,D8,I7,IntKind.bits,E9,A9,o7] <;> omega) | assumption) only [E8]⟩
theorem d5Y (N:Nat) (call a0D call3:j5) (X:Ins) (tv lv:Value) (a b:Nat) (hA:X.A=.ofNat a) (hB:X.B=.ofNat b) (ha:a < 4294967296) (hb:b < 4294967296)
 (c:Nat) (h:Trie VObj) (h34:∀ hh,(∀ b,b < c → hh.get b=h.get b) → ∃ z:List Nat → List Nat, ∀ r w,go (call 34 [H7 X tv lv]) ⟨c + 1,hh,r,w⟩=some (.ret (.bool true),⟨c + 1,hh,z r,w⟩))
 (C:Calls12 N call a0D call3 X 2)
 (Ht:P6 c h tv (O9 X.types)) (Hl:P6 c h lv (O9 X.labels)) (r w:List Nat) :
 I6 (go (a0u G8 N call (H7 X tv lv)) ⟨c,h,r,w⟩) fun x s=>x=.ret (.string ⟨⟨M6 (V7 X.op) (Z8 a)⟩⟩) ∧ ∀ i,i < c → s.h.get i=h.get i:=by
 obtain ⟨z,h34'⟩:=h34 (upd h c (.cells [(.int .i64 X.op, 0),(.int .i64 X.A, 0),(.int .i64 X.B, 0),(.int .u64 (Int.ofNat X.N), 0),(.int .i64 X.k, 0),(.int .i64 X.v, 0),(.int .i64 X.i, 0),(tv, 0),(lv, 0)] 0 false)) (fun b hb=>E8 (by omega))
 obtain ⟨h35,h39,h36,h36',h37c,h37,h37',h38,h44,h96⟩:=C
 obtain ⟨ta,te,rfl,_⟩:=id Ht
 obtain ⟨la,le,rfl,_⟩:=id Hl
 simp only [H7,hA,hB,List.length_map] at h34'
 have nl:=a0e X.op
 have l1:=a0h a (by omega)
 have l2:=a0h b (by omega)
 have q1:=h37 a (by omega)
 have q2:=h37' b (by omega)
 have q3:=h37' a (by omega)
 have q4:=h37c a (by omega)
 simp (config:={ maxSteps:=10000000 }) (disch:=first | assumption | omega | (simp only [Y9,Y2,Y1,Y8,Z5,Y6,Y4,X9,Y0,X8,Z4,Y7,Z0,Y5,Z6,Z7,Y3,X7,R5,T9,U2,R9,U1,R7,R8,U0,R6,S9,J2,I4,Nat.reduceMul,Nat.reduceLT,q9,C8,G7,F7,l8,D6,q8,F6,F3,Bool.not_false,Bool.not_true,Bool.and_true,Bool.true_and,Bool.and_self,r9,D5,Nat.zero_add,Nat.reduceAdd,j4,F8,Nat.reduceBEq,G9,H6,E5,j6,A8,l7,l6,l9,C9,j4,F4,G6,G5,F9,H8,H9,D7,z8,D9,w9,o8,o9,F5,D8,I7,IntKind.bits,E9,A9,o7] <;> omega) | assumption) only [a0u,a2B,a2t,a2s,a2u,a2z,a2v,a2r,a2w,a2A,a2y,a1r,a1O,a1A,a1q,a1E,a1s,a1g,a1y,a1W,a1J,a1T,a1l,a1X,a1M,a1K,a1j,a1v,a1R,a1P,a1z,a1V,a1L,a1C,a1o,a1m,a1h,a1w,a1t,a1Q,a1S,a1F,a1N,a1Z,a1Y,a1D,a1H,a1f,a1B,a1k,a1G,a1n,a0o,a1u,a0q,a1i,a0t,a1x,a0r,a1p,a0s,a1e,a0p,a1I,a4h,a2L,a4p,a2M,a3b,a2Z,H7,hA,hB,List.length_map,h34',h35,h39,h36,h38,h44,h96,q1,decide_true,K4,J4,V9,G6,G5,F9,Bool.not_true,U7,r9,D5,I5,Nat.reduceMul,ap9,a0P,a0Q,a2e,a2f,a0k,X6,a0g,V3,X4,a0J,bn,un,U6,a0d,V6,a2F,K6,I8,M0,J8,U5,O5,O4,A9,o7,K4,J4,l_0,l_s,P5,L9,V.d9Z,P7,Q8,Q7,U3,Q0,a0G,j6,l7,l9,U9,V4,a0l,R3,Q5,q9,C8,l8,Bool.and_self,K8,M9,P8,a0j,a0Z,V5,K7,N9,X5,I5,I9,E8,K9,N8,O6,Q9,J6,J7,Nat.zero_add,Nat.add_zero,Nat.reduceAdd,U8,O8,P9,a0L,V8]
 exact I6.done ⟨by simp only [Z8,M7,List.append_nil],fun i hi=>by simp (config:={ maxSteps:=10000000 }) (disch:=first | assumption | omega | (simp only [Y9,Y2,Y1,Y8,Z5,Y6,Y4,X9,Y0,X8,Z4,Y7,Z0,Y5,Z6,Z7,Y3,X7,R5,T9,U2,R9,U1,R7,R8,U0,R6,S9,J2,I4,Nat.reduceMul,Nat.reduceLT,q9,C8,G7,F7,l8,D6,q8,F6,F3,Bool.not_false,Bool.not_true,Bool.and_true,Bool.true_and,Bool.and_self,r9,D5,Nat.zero_add,Nat.reduceAdd,j4,F8,Nat.reduceBEq,G9,H6,E5,j6,A8,l7,l6,l9,C9,j4,F4,G6,G5,F9,H8,H9,D7,z8,D9,w9,o8,o9,F5,D8,I7,IntKind.bits,E9,A9,o7] <;> omega) | assumption) only [E8]⟩
theorem d6V (N:Nat) (call a0D call3:j5) (X:Ins) (tv lv:Value) (a b:Nat) (hA:X.A=.ofNat a) (hB:X.B=.ofNat b) (ha:a < 4294967296) (hb:b < 4294967296)
 (c:Nat) (h:Trie VObj) (h34:∀ hh,(∀ b,b < c → hh.get b=h.get b) → ∃ z:List Nat → List Nat, ∀ r w,go (call 34 [H7 X tv lv]) ⟨c + 1,hh,r,w⟩=some (.ret (.bool true),⟨c + 1,hh,z r,w⟩))
 (C:Calls12 N call a0D call3 X 4)
 (Ht:P6 c h tv (O9 X.types)) (Hl:P6 c h lv (O9 X.labels)) (r w:List Nat) :
 I6 (go (a0u G8 N call (H7 X tv lv)) ⟨c,h,r,w⟩) fun x s=>x=.ret (.string ⟨⟨M6 (V7 X.op) (Z8 a)⟩⟩) ∧ ∀ i,i < c → s.h.get i=h.get i:=by
 obtain ⟨z,h34'⟩:=h34 (upd h c (.cells [(.int .i64 X.op, 0),(.int .i64 X.A, 0),(.int .i64 X.B, 0),(.int .u64 (Int.ofNat X.N), 0),(.int .i64 X.k, 0),(.int .i64 X.v, 0),(.int .i64 X.i, 0),(tv, 0),(lv, 0)] 0 false)) (fun b hb=>E8 (by omega))
 obtain ⟨h35,h39,h36,h36',h37c,h37,h37',h38,h44,h96⟩:=C
 obtain ⟨ta,te,rfl,_⟩:=id Ht
 obtain ⟨la,le,rfl,_⟩:=id Hl
 simp only [H7,hA,hB,List.length_map] at h34'
 have nl:=a0e X.op
 have l1:=a0h a (by omega)
 have l2:=a0h b (by omega)
 have q1:=h37 a (by omega)
 have q2:=h37' b (by omega)
 have q3:=h37' a (by omega)
 have q4:=h37c a (by omega)
 simp (config:={ maxSteps:=10000000 }) (disch:=first | assumption | omega | (simp only [Y9,Y2,Y1,Y8,Z5,Y6,Y4,X9,Y0,X8,Z4,Y7,Z0,Y5,Z6,Z7,Y3,X7,R5,T9,U2,R9,U1,R7,R8,U0,R6,S9,J2,I4,Nat.reduceMul,Nat.reduceLT,q9,C8,G7,F7,l8,D6,q8,F6,F3,Bool.not_false,Bool.not_true,Bool.and_true,Bool.true_and,Bool.and_self,r9,D5,Nat.zero_add,Nat.reduceAdd,j4,F8,Nat.reduceBEq,G9,H6,E5,j6,A8,l7,l6,l9,C9,j4,F4,G6,G5,F9,H8,H9,D7,z8,D9,w9,o8,o9,F5,D8,I7,IntKind.bits,E9,A9,o7] <;> omega) | assumption) only [a0u,a2B,a2t,a2s,a2u,a2z,a2v,a2r,a2w,a2A,a2y,a1r,a1O,a1A,a1q,a1E,a1s,a1g,a1y,a1W,a1J,a1T,a1l,a1X,a1M,a1K,a1j,a1v,a1R,a1P,a1z,a1V,a1L,a1C,a1o,a1m,a1h,a1w,a1t,a1Q,a1S,a1F,a1N,a1Z,a1Y,a1D,a1H,a1f,a1B,a1k,a1G,a1n,a0o,a1u,a0q,a1i,a0t,a1x,a0r,a1p,a0s,a1e,a0p,a1I,a4h,a2L,a4p,a2M,a3b,a2Z,H7,hA,hB,List.length_map,h34',h35,h39,h36,h38,h44,h96,q1,decide_true,K4,J4,V9,G6,G5,F9,Bool.not_true,U7,r9,D5,I5,Nat.reduceMul,ap9,a0P,a0Q,a2e,a2f,a0k,X6,a0g,V3,X4,a0J,bn,un,U6,a0d,V6,a2F,K6,I8,M0,J8,U5,O5,O4,A9,o7,K4,J4,l_0,l_s,P5,L9,V.d9Z,P7,Q8,Q7,U3,Q0,a0G,j6,l7,l9,U9,V4,a0l,R3,Q5,q9,C8,l8,Bool.and_self,K8,M9,P8,a0j,a0Z,V5,K7,N9,X5,I5,I9,E8,K9,N8,O6,Q9,J6,J7,Nat.zero_add,Nat.add_zero,Nat.reduceAdd,U8,O8,P9,a0L,V8]
 exact I6.done ⟨by simp only [Z8,M7,List.append_nil],fun i hi=>by simp (config:={ maxSteps:=10000000 }) (disch:=first | assumption | omega | (simp only [Y9,Y2,Y1,Y8,Z5,Y6,Y4,X9,Y0,X8,Z4,Y7,Z0,Y5,Z6,Z7,Y3,X7,R5,T9,U2,R9,U1,R7,R8,U0,R6,S9,J2,I4,Nat.reduceMul,Nat.reduceLT,q9,C8,G7,F7,l8,D6,q8,F6,F3,Bool.not_false,Bool.not_true,Bool.and_true,Bool.true_and,Bool.and_self,r9,D5,Nat.zero_add,Nat.reduceAdd,j4,F8,Nat.reduceBEq,G9,H6,E5,j6,A8,l7,l6,l9,C9,j4,F4,G6,G5,F9,H8,H9,D7,z8,D9,w9,o8,o9,F5,D8,I7,IntKind.bits,E9,A9,o7] <;> omega) | assumption) only [E8]⟩
theorem d5L (N:Nat) (call a0D call3:j5) (X:Ins) (tv lv:Value) (a b:Nat) (hA:X.A=.ofNat a) (hB:X.B=.ofNat b) (ha:a < 4294967296) (hb:b < 4294967296)
 (c:Nat) (h:Trie VObj) (h34:∀ hh,(∀ b,b < c → hh.get b=h.get b) → ∃ z:List Nat → List Nat, ∀ r w,go (call 34 [H7 X tv lv]) ⟨c + 1,hh,r,w⟩=some (.ret (.bool true),⟨c + 1,hh,z r,w⟩))
 (C:Calls12 N call a0D call3 X 7)
 (Ht:P6 c h tv (O9 X.types)) (Hl:P6 c h lv (O9 X.labels)) (r w:List Nat) :
 I6 (go (a0u G8 N call (H7 X tv lv)) ⟨c,h,r,w⟩) fun x s=>x=.ret (.string ⟨⟨M6 (V7 X.op) (Z8 a)⟩⟩) ∧ ∀ i,i < c → s.h.get i=h.get i:=by
 obtain ⟨z,h34'⟩:=h34 (upd h c (.cells [(.int .i64 X.op, 0),(.int .i64 X.A, 0),(.int .i64 X.B, 0),(.int .u64 (Int.ofNat X.N), 0),(.int .i64 X.k, 0),(.int .i64 X.v, 0),(.int .i64 X.i, 0),(tv, 0),(lv, 0)] 0 false)) (fun b hb=>E8 (by omega))
 obtain ⟨h35,h39,h36,h36',h37c,h37,h37',h38,h44,h96⟩:=C
 obtain ⟨ta,te,rfl,_⟩:=id Ht
 obtain ⟨la,le,rfl,_⟩:=id Hl
 simp only [H7,hA,hB,List.length_map] at h34'
 have nl:=a0e X.op
 have l1:=a0h a (by omega)
 have l2:=a0h b (by omega)
 have q1:=h37 a (by omega)
 have q2:=h37' b (by omega)
 have q3:=h37' a (by omega)
 have q4:=h37c a (by omega)
 simp (config:={ maxSteps:=10000000 }) (disch:=first | assumption | omega | (simp only [Y9,Y2,Y1,Y8,Z5,Y6,Y4,X9,Y0,X8,Z4,Y7,Z0,Y5,Z6,Z7,Y3,X7,R5,T9,U2,R9,U1,R7,R8,U0,R6,S9,J2,I4,Nat.reduceMul,Nat.reduceLT,q9,C8,G7,F7,l8,D6,q8,F6,F3,Bool.not_false,Bool.not_true,Bool.and_true,Bool.true_and,Bool.and_self,r9,D5,Nat.zero_add,Nat.reduceAdd,j4,F8,Nat.reduceBEq,G9,H6,E5,j6,A8,l7,l6,l9,C9,j4,F4,G6,G5,F9,H8,H9,D7,z8,D9,w9,o8,o9,F5,D8,I7,IntKind.bits,E9,A9,o7] <;> omega) | assumption) only [a0u,a2B,a2t,a2s,a2u,a2z,a2v,a2r,a2w,a2A,a2y,a1r,a1O,a1A,a1q,a1E,a1s,a1g,a1y,a1W,a1J,a1T,a1l,a1X,a1M,a1K,a1j,a1v,a1R,a1P,a1z,a1V,a1L,a1C,a1o,a1m,a1h,a1w,a1t,a1Q,a1S,a1F,a1N,a1Z,a1Y,a1D,a1H,a1f,a1B,a1k,a1G,a1n,a0o,a1u,a0q,a1i,a0t,a1x,a0r,a1p,a0s,a1e,a0p,a1I,a4h,a2L,a4p,a2M,a3b,a2Z,H7,hA,hB,List.length_map,h34',h35,h39,h36,h38,h44,h96,q1,decide_true,K4,J4,V9,G6,G5,F9,Bool.not_true,U7,r9,D5,I5,Nat.reduceMul,ap9,a0P,a0Q,a2e,a2f,a0k,X6,a0g,V3,X4,a0J,bn,un,U6,a0d,V6,a2F,K6,I8,M0,J8,U5,O5,O4,A9,o7,K4,J4,l_0,l_s,P5,L9,V.d9Z,P7,Q8,Q7,U3,Q0,a0G,j6,l7,l9,U9,V4,a0l,R3,Q5,q9,C8,l8,Bool.and_self,K8,M9,P8,a0j,a0Z,V5,K7,N9,X5,I5,I9,E8,K9,N8,O6,Q9,J6,J7,Nat.zero_add,Nat.add_zero,Nat.reduceAdd,U8,O8,P9,a0L,V8]
 exact I6.done ⟨by simp only [Z8,M7,List.append_nil],fun i hi=>by simp (config:={ maxSteps:=10000000 }) (disch:=first | assumption | omega | (simp only [Y9,Y2,Y1,Y8,Z5,Y6,Y4,X9,Y0,X8,Z4,Y7,Z0,Y5,Z6,Z7,Y3,X7,R5,T9,U2,R9,U1,R7,R8,U0,R6,S9,J2,I4,Nat.reduceMul,Nat.reduceLT,q9,C8,G7,F7,l8,D6,q8,F6,F3,Bool.not_false,Bool.not_true,Bool.and_true,Bool.true_and,Bool.and_self,r9,D5,Nat.zero_add,Nat.reduceAdd,j4,F8,Nat.reduceBEq,G9,H6,E5,j6,A8,l7,l6,l9,C9,j4,F4,G6,G5,F9,H8,H9,D7,z8,D9,w9,o8,o9,F5,D8,I7,IntKind.bits,E9,A9,o7] <;> omega) | assumption) only [E8]⟩
end Go.Proofs.YtmomonnlmbljoaaGreatDoor
end
section
namespace Go.Proofs.YtmomonnlmbljoaaGreatDoor
open Go.V Go.RowKit Go.Shelf Go.Proofs
set_option maxRecDepth 1000000
set_option maxHeartbeats 4000000
set_option linter.unusedVariables false
attribute [local congr] a0b Z9 a0A a0B a0M a0T a3c
variable {mL:Int}
theorem d2d (N:Nat) (call a0D call3:j5) (X:Ins) (tv lv:Value) (a b:Nat) (hA:X.A=.ofNat a) (hB:X.B=.ofNat b) (ha:a < 4294967296) (hb:b < 4294967296)
 (c:Nat) (h:Trie VObj) (h34:∀ hh,(∀ b,b < c → hh.get b=h.get b) → ∃ z:List Nat → List Nat, ∀ r w,go (call 34 [H7 X tv lv]) ⟨c + 1,hh,r,w⟩=some (.ret (.bool true),⟨c + 1,hh,z r,w⟩))
 (C:Calls12 N call a0D call3 X 8)
 (Ht:P6 c h tv (O9 X.types)) (Hl:P6 c h lv (O9 X.labels)) (r w:List Nat) :
 I6 (go (a0u G8 N call (H7 X tv lv)) ⟨c,h,r,w⟩) fun x s=>x=.ret (.string ⟨⟨M6 (V7 X.op) (Z8 a)⟩⟩) ∧ ∀ i,i < c → s.h.get i=h.get i:=by
 obtain ⟨z,h34'⟩:=h34 (upd h c (.cells [(.int .i64 X.op, 0),(.int .i64 X.A, 0),(.int .i64 X.B, 0),(.int .u64 (Int.ofNat X.N), 0),(.int .i64 X.k, 0),(.int .i64 X.v, 0),(.int .i64 X.i, 0),(tv, 0),(lv, 0)] 0 false)) (fun b hb=>E8 (by omega))
 obtain ⟨h35,h39,h36,h36',h37c,h37,h37',h38,h44,h96⟩:=C
 obtain ⟨ta,te,rfl,_⟩:=id Ht
 obtain ⟨la,le,rfl,_⟩:=id Hl
 simp only [H7,hA,hB,List.length_map] at h34'
 have nl:=a0e X.op
 have l1:=a0h a (by omega)
 have l2:=a0h b (by omega)
 have q1:=h37 a (by omega)
 have q2:=h37' b (by omega)
 have q3:=h37' a (by omega)
 have q4:=h37c a (by omega)
 simp (config:={ maxSteps:=10000000 }) (disch:=first | assumption | omega | (simp only [Y9,Y2,Y1,Y8,Z5,Y6,Y4,X9,Y0,X8,Z4,Y7,Z0,Y5,Z6,Z7,Y3,X7,R5,T9,U2,R9,U1,R7,R8,U0,R6,S9,J2,I4,Nat.reduceMul,Nat.reduceLT,q9,C8,G7,F7,l8,D6,q8,F6,F3,Bool.not_false,Bool.not_true,Bool.and_true,Bool.true_and,Bool.and_self,r9,D5,Nat.zero_add,Nat.reduceAdd,j4,F8,Nat.reduceBEq,G9,H6,E5,j6,A8,l7,l6,l9,C9,j4,F4,G6,G5,F9,H8,H9,D7,z8,D9,w9,o8,o9,F5,D8,I7,IntKind.bits,E9,A9,o7] <;> omega) | assumption) only [a0u,a2B,a2t,a2s,a2u,a2z,a2v,a2r,a2w,a2A,a2y,a1r,a1O,a1A,a1q,a1E,a1s,a1g,a1y,a1W,a1J,a1T,a1l,a1X,a1M,a1K,a1j,a1v,a1R,a1P,a1z,a1V,a1L,a1C,a1o,a1m,a1h,a1w,a1t,a1Q,a1S,a1F,a1N,a1Z,a1Y,a1D,a1H,a1f,a1B,a1k,a1G,a1n,a0o,a1u,a0q,a1i,a0t,a1x,a0r,a1p,a0s,a1e,a0p,a1I,a4h,a2L,a4p,a2M,a3b,a2Z,H7,hA,hB,List.length_map,h34',h35,h39,h36,h38,h44,h96,q1,decide_true,K4,J4,V9,G6,G5,F9,Bool.not_true,U7,r9,D5,I5,Nat.reduceMul,ap9,a0P,a0Q,a2e,a2f,a0k,X6,a0g,V3,X4,a0J,bn,un,U6,a0d,V6,a2F,K6,I8,M0,J8,U5,O5,O4,A9,o7,K4,J4,l_0,l_s,P5,L9,V.d9Z,P7,Q8,Q7,U3,Q0,a0G,j6,l7,l9,U9,V4,a0l,R3,Q5,q9,C8,l8,Bool.and_self,K8,M9,P8,a0j,a0Z,V5,K7,N9,X5,I5,I9,E8,K9,N8,O6,Q9,J6,J7,Nat.zero_add,Nat.add_zero,Nat.reduceAdd,U8,O8,P9,a0L,V8]
 exact I6.done ⟨by simp only [Z8,M7,List.append_nil],fun i hi=>by simp (config:={ maxSteps:=10000000 }) (disch:=first | assumption | omega | (simp only [Y9,Y2,Y1,Y8,Z5,Y6,Y4,X9,Y0,X8,Z4,Y7,Z0,Y5,Z6,Z7,Y3,X7,R5,T9,U2,R9,U1,R7,R8,U0,R6,S9,J2,I4,Nat.reduceMul,Nat.reduceLT,q9,C8,G7,F7,l8,D6,q8,F6,F3,Bool.not_false,Bool.not_true,Bool.and_true,Bool.true_and,Bool.and_self,r9,D5,Nat.zero_add,Nat.reduceAdd,j4,F8,Nat.reduceBEq,G9,H6,E5,j6,A8,l7,l6,l9,C9,j4,F4,G6,G5,F9,H8,H9,D7,z8,D9,w9,o8,o9,F5,D8,I7,IntKind.bits,E9,A9,o7] <;> omega) | assumption) only [E8]⟩
theorem c9F (N:Nat) (call a0D call3:j5) (X:Ins) (tv lv:Value) (a b:Nat) (hA:X.A=.ofNat a) (hB:X.B=.ofNat b) (ha:a < 4294967296) (hb:b < 4294967296)
 (c:Nat) (h:Trie VObj) (h34:∀ hh,(∀ b,b < c → hh.get b=h.get b) → ∃ z:List Nat → List Nat, ∀ r w,go (call 34 [H7 X tv lv]) ⟨c + 1,hh,r,w⟩=some (.ret (.bool true),⟨c + 1,hh,z r,w⟩))
 (C:Calls12 N call a0D call3 X 12)
 (Ht:P6 c h tv (O9 X.types)) (Hl:P6 c h lv (O9 X.labels)) (r w:List Nat) :
 I6 (go (a0u G8 N call (H7 X tv lv)) ⟨c,h,r,w⟩) fun x s=>x=.ret (.string ⟨⟨M6 (V7 X.op) (Z8 a)⟩⟩) ∧ ∀ i,i < c → s.h.get i=h.get i:=by
 obtain ⟨z,h34'⟩:=h34 (upd h c (.cells [(.int .i64 X.op, 0),(.int .i64 X.A, 0),(.int .i64 X.B, 0),(.int .u64 (Int.ofNat X.N), 0),(.int .i64 X.k, 0),(.int .i64 X.v, 0),(.int .i64 X.i, 0),(tv, 0),(lv, 0)] 0 false)) (fun b hb=>E8 (by omega))
 obtain ⟨h35,h39,h36,h36',h37c,h37,h37',h38,h44,h96⟩:=C
 obtain ⟨ta,te,rfl,_⟩:=id Ht
 obtain ⟨la,le,rfl,_⟩:=id Hl
 simp only [H7,hA,hB,List.length_map] at h34'
 have nl:=a0e X.op
 have l1:=a0h a (by omega)
 have l2:=a0h b (by omega)
 have q1:=h37 a (by omega)
 have q2:=h37' b (by omega)
 have q3:=h37' a (by omega)
 have q4:=h37c a (by omega)
 simp (config:={ maxSteps:=10000000 }) (disch:=first | assumption | omega | (simp only [Y9,Y2,Y1,Y8,Z5,Y6,Y4,X9,Y0,X8,Z4,Y7,Z0,Y5,Z6,Z7,Y3,X7,R5,T9,U2,R9,U1,R7,R8,U0,R6,S9,J2,I4,Nat.reduceMul,Nat.reduceLT,q9,C8,G7,F7,l8,D6,q8,F6,F3,Bool.not_false,Bool.not_true,Bool.and_true,Bool.true_and,Bool.and_self,r9,D5,Nat.zero_add,Nat.reduceAdd,j4,F8,Nat.reduceBEq,G9,H6,E5,j6,A8,l7,l6,l9,C9,j4,F4,G6,G5,F9,H8,H9,D7,z8,D9,w9,o8,o9,F5,D8,I7,IntKind.bits,E9,A9,o7] <;> omega) | assumption) only [a0u,a2B,a2t,a2s,a2u,a2z,a2v,a2r,a2w,a2A,a2y,a1r,a1O,a1A,a1q,a1E,a1s,a1g,a1y,a1W,a1J,a1T,a1l,a1X,a1M,a1K,a1j,a1v,a1R,a1P,a1z,a1V,a1L,a1C,a1o,a1m,a1h,a1w,a1t,a1Q,a1S,a1F,a1N,a1Z,a1Y,a1D,a1H,a1f,a1B,a1k,a1G,a1n,a0o,a1u,a0q,a1i,a0t,a1x,a0r,a1p,a0s,a1e,a0p,a1I,a4h,a2L,a4p,a2M,a3b,a2Z,H7,hA,hB,List.length_map,h34',h35,h39,h36,h38,h44,h96,q1,decide_true,K4,J4,V9,G6,G5,F9,Bool.not_true,U7,r9,D5,I5,Nat.reduceMul,ap9,a0P,a0Q,a2e,a2f,a0k,X6,a0g,V3,X4,a0J,bn,un,U6,a0d,V6,a2F,K6,I8,M0,J8,U5,O5,O4,A9,o7,K4,J4,l_0,l_s,P5,L9,V.d9Z,P7,Q8,Q7,U3,Q0,a0G,j6,l7,l9,U9,V4,a0l,R3,Q5,q9,C8,l8,Bool.and_self,K8,M9,P8,a0j,a0Z,V5,K7,N9,X5,I5,I9,E8,K9,N8,O6,Q9,J6,J7,Nat.zero_add,Nat.add_zero,Nat.reduceAdd,U8,O8,P9,a0L,V8]
 exact I6.done ⟨by simp only [Z8,M7,List.append_nil],fun i hi=>by simp (config:={ maxSteps:=10000000 }) (disch:=first | assumption | omega | (simp only [Y9,Y2,Y1,Y8,Z5,Y6,Y4,X9,Y0,X8,Z4,Y7,Z0,Y5,Z6,Z7,Y3,X7,R5,T9,U2,R9,U1,R7,R8,U0,R6,S9,J2,I4,Nat.reduceMul,Nat.reduceLT,q9,C8,G7,F7,l8,D6,q8,F6,F3,Bool.not_false,Bool.not_true,Bool.and_true,Bool.true_and,Bool.and_self,r9,D5,Nat.zero_add,Nat.reduceAdd,j4,F8,Nat.reduceBEq,G9,H6,E5,j6,A8,l7,l6,l9,C9,j4,F4,G6,G5,F9,H8,H9,D7,z8,D9,w9,o8,o9,F5,D8,I7,IntKind.bits,E9,A9,o7] <;> omega) | assumption) only [E8]⟩
theorem c8b (N:Nat) (call a0D call3:j5) (X:Ins) (tv lv:Value) (a b:Nat) (hA:X.A=.ofNat a) (hB:X.B=.ofNat b) (ha:a < 4294967296) (hb:b < 4294967296)
 (c:Nat) (h:Trie VObj) (h34:∀ hh,(∀ b,b < c → hh.get b=h.get b) → ∃ z:List Nat → List Nat, ∀ r w,go (call 34 [H7 X tv lv]) ⟨c + 1,hh,r,w⟩=some (.ret (.bool true),⟨c + 1,hh,z r,w⟩))
 (C:Calls12 N call a0D call3 X 16)
 (Ht:P6 c h tv (O9 X.types)) (Hl:P6 c h lv (O9 X.labels)) (r w:List Nat) :
 I6 (go (a0u G8 N call (H7 X tv lv)) ⟨c,h,r,w⟩) fun x s=>x=.ret (.string ⟨⟨M6 (V7 X.op) (Z8 a)⟩⟩) ∧ ∀ i,i < c → s.h.get i=h.get i:=by
 obtain ⟨z,h34'⟩:=h34 (upd h c (.cells [(.int .i64 X.op, 0),(.int .i64 X.A, 0),(.int .i64 X.B, 0),(.int .u64 (Int.ofNat X.N), 0),(.int .i64 X.k, 0),(.int .i64 X.v, 0),(.int .i64 X.i, 0),(tv, 0),(lv, 0)] 0 false)) (fun b hb=>E8 (by omega))
 obtain ⟨h35,h39,h36,h36',h37c,h37,h37',h38,h44,h96⟩:=C
 obtain ⟨ta,te,rfl,_⟩:=id Ht
 obtain ⟨la,le,rfl,_⟩:=id Hl
 simp only [H7,hA,hB,List.length_map] at h34'
 have nl:=a0e X.op
 have l1:=a0h a (by omega)
 have l2:=a0h b (by omega)
 have q1:=h37 a (by omega)
 have q2:=h37' b (by omega)
 have q3:=h37' a (by omega)
 have q4:=h37c a (by omega)
 simp (config:={ maxSteps:=10000000 }) (disch:=first | assumption | omega | (simp only [Y9,Y2,Y1,Y8,Z5,Y6,Y4,X9,Y0,X8,Z4,Y7,Z0,Y5,Z6,Z7,Y3,X7,R5,T9,U2,R9,U1,R7,R8,U0,R6,S9,J2,I4,Nat.reduceMul,Nat.reduceLT,q9,C8,G7,F7,l8,D6,q8,F6,F3,Bool.not_false,Bool.not_true,Bool.and_true,Bool.true_and,Bool.and_self,r9,D5,Nat.zero_add,Nat.reduceAdd,j4,F8,Nat.reduceBEq,G9,H6,E5,j6,A8,l7,l6,l9,C9,j4,F4,G6,G5,F9,H8,H9,D7,z8,D9,w9,o8,o9,F5,D8,I7,IntKind.bits,E9,A9,o7] <;> omega) | assumption) only [a0u,a2B,a2t,a2s,a2u,a2z,a2v,a2r,a2w,a2A,a2y,a1r,a1O,a1A,a1q,a1E,a1s,a1g,a1y,a1W,a1J,a1T,a1l,a1X,a1M,a1K,a1j,a1v,a1R,a1P,a1z,a1V,a1L,a1C,a1o,a1m,a1h,a1w,a1t,a1Q,a1S,a1F,a1N,a1Z,a1Y,a1D,a1H,a1f,a1B,a1k,a1G,a1n,a0o,a1u,a0q,a1i,a0t,a1x,a0r,a1p,a0s,a1e,a0p,a1I,a4h,a2L,a4p,a2M,a3b,a2Z,H7,hA,hB,List.length_map,h34',h35,h39,h36,h38,h44,h96,q1,decide_true,K4,J4,V9,G6,G5,F9,Bool.not_true,U7,r9,D5,I5,Nat.reduceMul,ap9,a0P,a0Q,a2e,a2f,a0k,X6,a0g,V3,X4,a0J,bn,un,U6,a0d,V6,a2F,K6,I8,M0,J8,U5,O5,O4,A9,o7,K4,J4,l_0,l_s,P5,L9,V.d9Z,P7,Q8,Q7,U3,Q0,a0G,j6,l7,l9,U9,V4,a0l,R3,Q5,q9,C8,l8,Bool.and_self,K8,M9,P8,a0j,a0Z,V5,K7,N9,X5,I5,I9,E8,K9,N8,O6,Q9,J6,J7,Nat.zero_add,Nat.add_zero,Nat.reduceAdd,U8,O8,P9,a0L,V8]
 exact I6.done ⟨by simp only [Z8,M7,List.append_nil],fun i hi=>by simp (config:={ maxSteps:=10000000 }) (disch:=first | assumption | omega | (simp only [Y9,Y2,Y1,Y8,Z5,Y6,Y4,X9,Y0,X8,Z4,Y7,Z0,Y5,Z6,Z7,Y3,X7,R5,T9,U2,R9,U1,R7,R8,U0,R6,S9,J2,I4,Nat.reduceMul,Nat.reduceLT,q9,C8,G7,F7,l8,D6,q8,F6,F3,Bool.not_false,Bool.not_true,Bool.and_true,Bool.true_and,Bool.and_self,r9,D5,Nat.zero_add,Nat.reduceAdd,j4,F8,Nat.reduceBEq,G9,H6,E5,j6,A8,l7,l6,l9,C9,j4,F4,G6,G5,F9,H8,H9,D7,z8,D9,w9,o8,o9,F5,D8,I7,IntKind.bits,E9,A9,o7] <;> omega) | assumption) only [E8]⟩
theorem c8Q (N:Nat) (call a0D call3:j5) (X:Ins) (tv lv:Value) (a b:Nat) (hA:X.A=.ofNat a) (hB:X.B=.ofNat b) (ha:a < 4294967296) (hb:b < 4294967296) (h43:call 43 [.int .i64 X.A]=M.pure (.ret (.string ⟨⟨bcase (decide (X.A=3)) [102, 117, 110, 99] [101, 120, 116, 101, 114, 110]⟩⟩)))
 (c:Nat) (h:Trie VObj) (h34:∀ hh,(∀ b,b < c → hh.get b=h.get b) → ∃ z:List Nat → List Nat, ∀ r w,go (call 34 [H7 X tv lv]) ⟨c + 1,hh,r,w⟩=some (.ret (.bool true),⟨c + 1,hh,z r,w⟩))
 (C:Calls12 N call a0D call3 X 20)
 (Ht:P6 c h tv (O9 X.types)) (Hl:P6 c h lv (O9 X.labels)) (r w:List Nat) :
 I6 (go (a0u G8 N call (H7 X tv lv)) ⟨c,h,r,w⟩) fun x s=>x=.ret (.string ⟨⟨M6 (V7 X.op) (bcase (decide (X.A=3)) (32 :: [102, 117, 110, 99]) (32 :: [101, 120, 116, 101, 114, 110]))⟩⟩) ∧ ∀ i,i < c → s.h.get i=h.get i:=by
 obtain ⟨z,h34'⟩:=h34 (upd h c (.cells [(.int .i64 X.op, 0),(.int .i64 X.A, 0),(.int .i64 X.B, 0),(.int .u64 (Int.ofNat X.N), 0),(.int .i64 X.k, 0),(.int .i64 X.v, 0),(.int .i64 X.i, 0),(tv, 0),(lv, 0)] 0 false)) (fun b hb=>E8 (by omega))
 rw [hA] at h43
 rw [hA]
 have e3:decide (Int.ofNat a=(3:Int))=a.beq 3:=V9 a 3
 rw [e3] at h43
 rw [e3]
 obtain ⟨h35,h39,h36,h36',h37c,h37,h37',h38,h44,h96⟩:=C
 obtain ⟨ta,te,rfl,_⟩:=id Ht
 obtain ⟨la,le,rfl,_⟩:=id Hl
 simp only [H7,hA,hB,List.length_map] at h34'
 have nl:=a0e X.op
 have l1:=a0h a (by omega)
 have l2:=a0h b (by omega)
 have q1:=h37 a (by omega)
 have q2:=h37' b (by omega)
 have q3:=h37' a (by omega)
 have q4:=h37c a (by omega)
 cases hz:a.beq 3 with
 | true=>
   simp (config:={ maxSteps:=10000000 }) (disch:=first | assumption | omega | (simp only [Y9,Y2,Y1,Y8,Z5,Y6,Y4,X9,Y0,X8,Z4,Y7,Z0,Y5,Z6,Z7,Y3,X7,R5,T9,U2,R9,U1,R7,R8,U0,R6,S9,J2,I4,Nat.reduceMul,Nat.reduceLT,q9,C8,G7,F7,l8,D6,q8,F6,F3,Bool.not_false,Bool.not_true,Bool.and_true,Bool.true_and,Bool.and_self,r9,D5,Nat.zero_add,Nat.reduceAdd,j4,F8,Nat.reduceBEq,G9,H6,E5,j6,A8,l7,l6,l9,C9,j4,F4,G6,G5,F9,H8,H9,D7,z8,D9,w9,o8,o9,F5,D8,I7,IntKind.bits,E9,A9,o7] <;> omega) | assumption) only [a0u,a2B,a2t,a2s,a2u,a2z,a2v,a2r,a2w,a2A,a2y,a1r,a1O,a1A,a1q,a1E,a1s,a1g,a1y,a1W,a1J,a1T,a1l,a1X,a1M,a1K,a1j,a1v,a1R,a1P,a1z,a1V,a1L,a1C,a1o,a1m,a1h,a1w,a1t,a1Q,a1S,a1F,a1N,a1Z,a1Y,a1D,a1H,a1f,a1B,a1k,a1G,a1n,a0o,a1u,a0q,a1i,a0t,a1x,a0r,a1p,a0s,a1e,a0p,a1I,b4t,a3b,a2Z,H7,hA,hB,List.length_map,h34',h35,h39,h38,h44,h96,h43,hz,decide_true,K4,J4,V9,G6,F9,Bool.not_true,U7,r9,D5,I5,Nat.reduceMul,ap9,a0P,a0Q,a2e,a2f,a0k,X6,a0g,V3,X4,a0J,bn,un,U6,a0d,V6,a2F,K6,I8,M0,J8,U5,O5,O4,A9,o7,K4,J4,l_0,l_s,P5,L9,V.d9Z,P7,Q8,Q7,U3,Q0,a0G,j6,l7,l9,U9,V4,a0l,R3,Q5,q9,C8,l8,Bool.and_self,K8,M9,P8,a0j,a0Z,V5,K7,N9,X5,I5,I9,E8,K9,N8,O6,Q9,J6,J7,Nat.zero_add,Nat.add_zero,Nat.reduceAdd,U8,O8,P9,a0L,V8]
   exact I6.done ⟨by simp only [M7],fun i hi=>by simp (config:={ maxSteps:=10000000 }) (disch:=first | assumption | omega | (simp only [Y9,Y2,Y1,Y8,Z5,Y6,Y4,X9,Y0,X8,Z4,Y7,Z0,Y5,Z6,Z7,Y3,X7,R5,T9,U2,R9,U1,R7,R8,U0,R6,S9,J2,I4,Nat.reduceMul,Nat.reduceLT,q9,C8,G7,F7,l8,D6,q8,F6,F3,Bool.not_false,Bool.not_true,Bool.and_true,Bool.true_and,Bool.and_self,r9,D5,Nat.zero_add,Nat.reduceAdd,j4,F8,Nat.reduceBEq,G9,H6,E5,j6,A8,l7,l6,l9,C9,j4,F4,G6,G5,F9,H8,H9,D7,z8,D9,w9,o8,o9,F5,D8,I7,IntKind.bits,E9,A9,o7] <;> omega) | assumption) only [E8]⟩
 | false=>
   simp (config:={ maxSteps:=10000000 }) (disch:=first | assumption | omega | (simp only [Y9,Y2,Y1,Y8,Z5,Y6,Y4,X9,Y0,X8,Z4,Y7,Z0,Y5,Z6,Z7,Y3,X7,R5,T9,U2,R9,U1,R7,R8,U0,R6,S9,J2,I4,Nat.reduceMul,Nat.reduceLT,q9,C8,G7,F7,l8,D6,q8,F6,F3,Bool.not_false,Bool.not_true,Bool.and_true,Bool.true_and,Bool.and_self,r9,D5,Nat.zero_add,Nat.reduceAdd,j4,F8,Nat.reduceBEq,G9,H6,E5,j6,A8,l7,l6,l9,C9,j4,F4,G6,G5,F9,H8,H9,D7,z8,D9,w9,o8,o9,F5,D8,I7,IntKind.bits,E9,A9,o7] <;> omega) | assumption) only [a0u,a2B,a2t,a2s,a2u,a2z,a2v,a2r,a2w,a2A,a2y,a1r,a1O,a1A,a1q,a1E,a1s,a1g,a1y,a1W,a1J,a1T,a1l,a1X,a1M,a1K,a1j,a1v,a1R,a1P,a1z,a1V,a1L,a1C,a1o,a1m,a1h,a1w,a1t,a1Q,a1S,a1F,a1N,a1Z,a1Y,a1D,a1H,a1f,a1B,a1k,a1G,a1n,a0o,a1u,a0q,a1i,a0t,a1x,a0r,a1p,a0s,a1e,a0p,a1I,b4t,a3b,a2Z,H7,hA,hB,List.length_map,h34',h35,h39,h38,h44,h96,h43,hz,decide_true,K4,J4,V9,G6,F9,Bool.not_true,U7,r9,D5,I5,Nat.reduceMul,ap9,a0P,a0Q,a2e,a2f,a0k,X6,a0g,V3,X4,a0J,bn,un,U6,a0d,V6,a2F,K6,I8,M0,J8,U5,O5,O4,A9,o7,K4,J4,l_0,l_s,P5,L9,V.d9Z,P7,Q8,Q7,U3,Q0,a0G,j6,l7,l9,U9,V4,a0l,R3,Q5,q9,C8,l8,Bool.and_self,K8,M9,P8,a0j,a0Z,V5,K7,N9,X5,I5,I9,E8,K9,N8,O6,Q9,J6,J7,Nat.zero_add,Nat.add_zero,Nat.reduceAdd,U8,O8,P9,a0L,V8]
   exact I6.done ⟨by simp only [M7],fun i hi=>by simp (config:={ maxSteps:=10000000 }) (disch:=first | assumption | omega | (simp only [Y9,Y2,Y1,Y8,Z5,Y6,Y4,X9,Y0,X8,Z4,Y7,Z0,Y5,Z6,Z7,Y3,X7,R5,T9,U2,R9,U1,R7,R8,U0,R6,S9,J2,I4,Nat.reduceMul,Nat.reduceLT,q9,C8,G7,F7,l8,D6,q8,F6,F3,Bool.not_false,Bool.not_true,Bool.and_true,Bool.true_and,Bool.and_self,r9,D5,Nat.zero_add,Nat.reduceAdd,j4,F8,Nat.reduceBEq,G9,H6,E5,j6,A8,l7,l6,l9,C9,j4,F4,G6,G5,F9,H8,H9,D7,z8,D9,w9,o8,o9,F5,D8,I7,IntKind.bits,E9,A9,o7] <;> omega) | assumption) only [E8]⟩
end Go.Proofs.YtmomonnlmbljoaaGreatDoor
end
section
namespace Go.Proofs.YtmomonnlmbljoaaGreatDoor
open Go.V Go.RowKit Go.Shelf Go.Proofs
set_option maxRecDepth 1000000
set_option maxHeartbeats 4000000
set_option linter.unusedVariables false
attribute [local congr] a0b Z9 a0A a0B a0M a0T a3c
variable {mL:Int}
theorem d7s (N:Nat) (call a0D call3:j5) (X:Ins) (tv lv:Value) (a b:Nat) (hA:X.A=.ofNat a) (hB:X.B=.ofNat b) (ha:a < 4294967296) (hb:b < 4294967296)
 (c:Nat) (h:Trie VObj) (h34:∀ hh,(∀ b,b < c → hh.get b=h.get b) → ∃ z:List Nat → List Nat, ∀ r w,go (call 34 [H7 X tv lv]) ⟨c + 1,hh,r,w⟩=some (.ret (.bool true),⟨c + 1,hh,z r,w⟩))
 (C:Calls12 N call a0D call3 X 9)
 (Ht:P6 c h tv (O9 X.types)) (Hl:P6 c h lv (O9 X.labels)) (r w:List Nat) :
 I6 (go (a0u G8 N call (H7 X tv lv)) ⟨c,h,r,w⟩) fun x s=>x=.ret (.string ⟨⟨M6 (V7 X.op) (a0V a)⟩⟩) ∧ ∀ i,i < c → s.h.get i=h.get i:=by
 obtain ⟨z,h34'⟩:=h34 (upd h c (.cells [(.int .i64 X.op, 0),(.int .i64 X.A, 0),(.int .i64 X.B, 0),(.int .u64 (Int.ofNat X.N), 0),(.int .i64 X.k, 0),(.int .i64 X.v, 0),(.int .i64 X.i, 0),(tv, 0),(lv, 0)] 0 false)) (fun b hb=>E8 (by omega))
 obtain ⟨h35,h39,h36,h36',h37c,h37,h37',h38,h44,h96⟩:=C
 obtain ⟨ta,te,rfl,_⟩:=id Ht
 obtain ⟨la,le,rfl,_⟩:=id Hl
 simp only [H7,hA,hB,List.length_map] at h34'
 have nl:=a0e X.op
 have l1:=a0h a (by omega)
 have l2:=a0h b (by omega)
 have q1:=h37 a (by omega)
 have q2:=h37' b (by omega)
 have q3:=h37' a (by omega)
 have q4:=h37c a (by omega)
 cases hz:a.beq 0 with
 | true=>
   simp (config:={ maxSteps:=10000000 }) (disch:=first | assumption | omega | (simp only [Y9,Y2,Y1,Y8,Z5,Y6,Y4,X9,Y0,X8,Z4,Y7,Z0,Y5,Z6,Z7,Y3,X7,R5,T9,U2,R9,U1,R7,R8,U0,R6,S9,J2,I4,Nat.reduceMul,Nat.reduceLT,q9,C8,G7,F7,l8,D6,q8,F6,F3,Bool.not_false,Bool.not_true,Bool.and_true,Bool.true_and,Bool.and_self,r9,D5,Nat.zero_add,Nat.reduceAdd,j4,F8,Nat.reduceBEq,G9,H6,E5,j6,A8,l7,l6,l9,C9,j4,F4,G6,G5,F9,H8,H9,D7,z8,D9,w9,o8,o9,F5,D8,I7,IntKind.bits,E9,A9,o7] <;> omega) | assumption) only [a0u,a2B,a2t,a2s,a2u,a2z,a2v,a2r,a2w,a2A,a2y,a1r,a1O,a1A,a1q,a1E,a1s,a1g,a1y,a1W,a1J,a1T,a1l,a1X,a1M,a1K,a1j,a1v,a1R,a1P,a1z,a1V,a1L,a1C,a1o,a1m,a1h,a1w,a1t,a1Q,a1S,a1F,a1N,a1Z,a1Y,a1D,a1H,a1f,a1B,a1k,a1G,a1n,a0o,a1u,a0q,a1i,a0t,a1x,a0r,a1p,a0s,a1e,a0p,a1I,a3b,a2Z,H7,hA,hB,List.length_map,h34',h35,h39,h38,h44,h96,hz,decide_true,K4,J4,V9,G6,G5,F9,Bool.not_true,U7,I5,a0k,X6,a0g,V3,a0J,bn,un,U6,a0d,V6,a2F,K6,I8,M0,J8,U5,O5,O4,A9,o7,K4,J4,l_0,l_s,P5,L9,V.d9Z,P7,Q7,a0S,U3,Q0,a0G,j6,l7,l9,U9,V4,a0l,R3,Q5,q9,C8,l8,Bool.and_self,K8,M9,P8,a0j,a0Z,V5,K7,N9,X5,I5,I9,E8,K9,N8,O6,Q9,J6,J7,Nat.zero_add,Nat.add_zero,U8,O8,P9]
   exact I6.done ⟨by simp only [a0V,K4,hz,  M7,List.append_nil],fun i hi=>by simp (config:={ maxSteps:=10000000 }) (disch:=first | assumption | omega | (simp only [Y9,Y2,Y1,Y8,Z5,Y6,Y4,X9,Y0,X8,Z4,Y7,Z0,Y5,Z6,Z7,Y3,X7,R5,T9,U2,R9,U1,R7,R8,U0,R6,S9,J2,I4,Nat.reduceMul,Nat.reduceLT,q9,C8,G7,F7,l8,D6,q8,F6,F3,Bool.not_false,Bool.not_true,Bool.and_true,Bool.true_and,Bool.and_self,r9,D5,Nat.zero_add,Nat.reduceAdd,j4,F8,Nat.reduceBEq,G9,H6,E5,j6,A8,l7,l6,l9,C9,j4,F4,G6,G5,F9,H8,H9,D7,z8,D9,w9,o8,o9,F5,D8,I7,IntKind.bits,E9,A9,o7] <;> omega) | assumption) only [E8]⟩
 | false=>
   simp (config:={ maxSteps:=10000000 }) (disch:=first | assumption | omega | (simp only [Y9,Y2,Y1,Y8,Z5,Y6,Y4,X9,Y0,X8,Z4,Y7,Z0,Y5,Z6,Z7,Y3,X7,R5,T9,U2,R9,U1,R7,R8,U0,R6,S9,J2,I4,Nat.reduceMul,Nat.reduceLT,q9,C8,G7,F7,l8,D6,q8,F6,F3,Bool.not_false,Bool.not_true,Bool.and_true,Bool.true_and,Bool.and_self,r9,D5,Nat.zero_add,Nat.reduceAdd,j4,F8,Nat.reduceBEq,G9,H6,E5,j6,A8,l7,l6,l9,C9,j4,F4,G6,G5,F9,H8,H9,D7,z8,D9,w9,o8,o9,F5,D8,I7,IntKind.bits,E9,A9,o7] <;> omega) | assumption) only [a0u,a2B,a2t,a2s,a2u,a2z,a2v,a2r,a2w,a2A,a2y,a1r,a1O,a1A,a1q,a1E,a1s,a1g,a1y,a1W,a1J,a1T,a1l,a1X,a1M,a1K,a1j,a1v,a1R,a1P,a1z,a1V,a1L,a1C,a1o,a1m,a1h,a1w,a1t,a1Q,a1S,a1F,a1N,a1Z,a1Y,a1D,a1H,a1f,a1B,a1k,a1G,a1n,a0o,a1u,a0q,a1i,a0t,a1x,a0r,a1p,a0s,a1e,a0p,a1I,a4h,a2L,a4p,a2M,a3b,a2Z,H7,hA,hB,List.length_map,h34',h35,h39,h36',h38,h44,h96,q3,hz,decide_true,K4,J4,V9,G6,G5,F9,Bool.not_true,Bool.not_false,U7,r9,D5,I5,Nat.reduceMul,ap9,a0P,a0Q,a2e,a2f,a0k,X6,a0g,V3,X4,a0J,bn,un,U6,a0d,V6,a2F,K6,I8,M0,J8,U5,O5,O4,A9,o7,K4,J4,l_0,l_s,P5,L9,V.d9Z,P7,Q8,Q7,a0S,U3,Q0,a0G,j6,l7,l9,U9,V4,a0l,R3,Q5,q9,C8,l8,Bool.and_self,K8,M9,P8,a0j,a0Z,V5,K7,N9,X5,I5,I9,E8,K9,N8,O6,Q9,J6,J7,Nat.zero_add,Nat.add_zero,Nat.reduceAdd,U8,O8,P9,a0L,V8]
   exact I6.done ⟨by simp only [a0V,Z8,J4,hz,  M7,List.append_nil],fun i hi=>by simp (config:={ maxSteps:=10000000 }) (disch:=first | assumption | omega | (simp only [Y9,Y2,Y1,Y8,Z5,Y6,Y4,X9,Y0,X8,Z4,Y7,Z0,Y5,Z6,Z7,Y3,X7,R5,T9,U2,R9,U1,R7,R8,U0,R6,S9,J2,I4,Nat.reduceMul,Nat.reduceLT,q9,C8,G7,F7,l8,D6,q8,F6,F3,Bool.not_false,Bool.not_true,Bool.and_true,Bool.true_and,Bool.and_self,r9,D5,Nat.zero_add,Nat.reduceAdd,j4,F8,Nat.reduceBEq,G9,H6,E5,j6,A8,l7,l6,l9,C9,j4,F4,G6,G5,F9,H8,H9,D7,z8,D9,w9,o8,o9,F5,D8,I7,IntKind.bits,E9,A9,o7] <;> omega) | assumption) only [E8]⟩
theorem c9m (N:Nat) (call a0D call3:j5) (X:Ins) (tv lv:Value) (a b:Nat) (hA:X.A=.ofNat a) (hB:X.B=.ofNat b) (ha:a < 4294967296) (hb:b < 4294967296)
 (c:Nat) (h:Trie VObj) (h34:∀ hh,(∀ b,b < c → hh.get b=h.get b) → ∃ z:List Nat → List Nat, ∀ r w,go (call 34 [H7 X tv lv]) ⟨c + 1,hh,r,w⟩=some (.ret (.bool true),⟨c + 1,hh,z r,w⟩))
 (C:Calls12 N call a0D call3 X 13)
 (Ht:P6 c h tv (O9 X.types)) (Hl:P6 c h lv (O9 X.labels)) (r w:List Nat) :
 I6 (go (a0u G8 N call (H7 X tv lv)) ⟨c,h,r,w⟩) fun x s=>x=.ret (.string ⟨⟨M6 (V7 X.op) (a0V b)⟩⟩) ∧ ∀ i,i < c → s.h.get i=h.get i:=by
 obtain ⟨z,h34'⟩:=h34 (upd h c (.cells [(.int .i64 X.op, 0),(.int .i64 X.A, 0),(.int .i64 X.B, 0),(.int .u64 (Int.ofNat X.N), 0),(.int .i64 X.k, 0),(.int .i64 X.v, 0),(.int .i64 X.i, 0),(tv, 0),(lv, 0)] 0 false)) (fun b hb=>E8 (by omega))
 obtain ⟨h35,h39,h36,h36',h37c,h37,h37',h38,h44,h96⟩:=C
 obtain ⟨ta,te,rfl,_⟩:=id Ht
 obtain ⟨la,le,rfl,_⟩:=id Hl
 simp only [H7,hA,hB,List.length_map] at h34'
 have nl:=a0e X.op
 have l1:=a0h a (by omega)
 have l2:=a0h b (by omega)
 have q1:=h37 a (by omega)
 have q2:=h37' b (by omega)
 have q3:=h37' a (by omega)
 have q4:=h37c a (by omega)
 cases hz:b.beq 0 with
 | true=>
   simp (config:={ maxSteps:=10000000 }) (disch:=first | assumption | omega | (simp only [Y9,Y2,Y1,Y8,Z5,Y6,Y4,X9,Y0,X8,Z4,Y7,Z0,Y5,Z6,Z7,Y3,X7,R5,T9,U2,R9,U1,R7,R8,U0,R6,S9,J2,I4,Nat.reduceMul,Nat.reduceLT,q9,C8,G7,F7,l8,D6,q8,F6,F3,Bool.not_false,Bool.not_true,Bool.and_true,Bool.true_and,Bool.and_self,r9,D5,Nat.zero_add,Nat.reduceAdd,j4,F8,Nat.reduceBEq,G9,H6,E5,j6,A8,l7,l6,l9,C9,j4,F4,G6,G5,F9,H8,H9,D7,z8,D9,w9,o8,o9,F5,D8,I7,IntKind.bits,E9,A9,o7] <;> omega) | assumption) only [a0u,a2B,a2t,a2s,a2u,a2z,a2v,a2r,a2w,a2A,a2y,a1r,a1O,a1A,a1q,a1E,a1s,a1g,a1y,a1W,a1J,a1T,a1l,a1X,a1M,a1K,a1j,a1v,a1R,a1P,a1z,a1V,a1L,a1C,a1o,a1m,a1h,a1w,a1t,a1Q,a1S,a1F,a1N,a1Z,a1Y,a1D,a1H,a1f,a1B,a1k,a1G,a1n,a0o,a1u,a0q,a1i,a0t,a1x,a0r,a1p,a0s,a1e,a0p,a1I,a3b,a2Z,H7,hA,hB,List.length_map,h34',h35,h39,h38,h44,h96,hz,decide_true,K4,J4,V9,G6,G5,F9,Bool.not_true,U7,I5,a0k,X6,a0g,V3,a0J,bn,un,U6,a0d,V6,a2F,K6,I8,M0,J8,U5,O5,O4,A9,o7,K4,J4,l_0,l_s,P5,L9,V.d9Z,P7,Q7,a0S,U3,Q0,a0G,j6,l7,l9,U9,V4,a0l,R3,Q5,q9,C8,l8,Bool.and_self,K8,M9,P8,a0j,a0Z,V5,K7,N9,X5,I5,I9,E8,K9,N8,O6,Q9,J6,J7,Nat.zero_add,Nat.add_zero,U8,O8,P9]
   exact I6.done ⟨by simp only [a0V,K4,hz,  M7,List.append_nil],fun i hi=>by simp (config:={ maxSteps:=10000000 }) (disch:=first | assumption | omega | (simp only [Y9,Y2,Y1,Y8,Z5,Y6,Y4,X9,Y0,X8,Z4,Y7,Z0,Y5,Z6,Z7,Y3,X7,R5,T9,U2,R9,U1,R7,R8,U0,R6,S9,J2,I4,Nat.reduceMul,Nat.reduceLT,q9,C8,G7,F7,l8,D6,q8,F6,F3,Bool.not_false,Bool.not_true,Bool.and_true,Bool.true_and,Bool.and_self,r9,D5,Nat.zero_add,Nat.reduceAdd,j4,F8,Nat.reduceBEq,G9,H6,E5,j6,A8,l7,l6,l9,C9,j4,F4,G6,G5,F9,H8,H9,D7,z8,D9,w9,o8,o9,F5,D8,I7,IntKind.bits,E9,A9,o7] <;> omega) | assumption) only [E8]⟩
 | false=>
   simp (config:={ maxSteps:=10000000 }) (disch:=first | assumption | omega | (simp only [Y9,Y2,Y1,Y8,Z5,Y6,Y4,X9,Y0,X8,Z4,Y7,Z0,Y5,Z6,Z7,Y3,X7,R5,T9,U2,R9,U1,R7,R8,U0,R6,S9,J2,I4,Nat.reduceMul,Nat.reduceLT,q9,C8,G7,F7,l8,D6,q8,F6,F3,Bool.not_false,Bool.not_true,Bool.and_true,Bool.true_and,Bool.and_self,r9,D5,Nat.zero_add,Nat.reduceAdd,j4,F8,Nat.reduceBEq,G9,H6,E5,j6,A8,l7,l6,l9,C9,j4,F4,G6,G5,F9,H8,H9,D7,z8,D9,w9,o8,o9,F5,D8,I7,IntKind.bits,E9,A9,o7] <;> omega) | assumption) only [a0u,a2B,a2t,a2s,a2u,a2z,a2v,a2r,a2w,a2A,a2y,a1r,a1O,a1A,a1q,a1E,a1s,a1g,a1y,a1W,a1J,a1T,a1l,a1X,a1M,a1K,a1j,a1v,a1R,a1P,a1z,a1V,a1L,a1C,a1o,a1m,a1h,a1w,a1t,a1Q,a1S,a1F,a1N,a1Z,a1Y,a1D,a1H,a1f,a1B,a1k,a1G,a1n,a0o,a1u,a0q,a1i,a0t,a1x,a0r,a1p,a0s,a1e,a0p,a1I,a4h,a2L,a4p,a2M,a3b,a2Z,H7,hA,hB,List.length_map,h34',h35,h39,h36',h38,h44,h96,q2,hz,decide_true,K4,J4,V9,G6,G5,F9,Bool.not_true,Bool.not_false,U7,r9,D5,I5,Nat.reduceMul,ap9,a0P,a0Q,a2e,a2f,a0k,X6,a0g,V3,X4,a0J,bn,un,U6,a0d,V6,a2F,K6,I8,M0,J8,U5,O5,O4,A9,o7,K4,J4,l_0,l_s,P5,L9,V.d9Z,P7,Q8,Q7,a0S,U3,Q0,a0G,j6,l7,l9,U9,V4,a0l,R3,Q5,q9,C8,l8,Bool.and_self,K8,M9,P8,a0j,a0Z,V5,K7,N9,X5,I5,I9,E8,K9,N8,O6,Q9,J6,J7,Nat.zero_add,Nat.add_zero,Nat.reduceAdd,U8,O8,P9,a0L,V8]
   exact I6.done ⟨by simp only [a0V,Z8,J4,hz,  M7,List.append_nil],fun i hi=>by simp (config:={ maxSteps:=10000000 }) (disch:=first | assumption | omega | (simp only [Y9,Y2,Y1,Y8,Z5,Y6,Y4,X9,Y0,X8,Z4,Y7,Z0,Y5,Z6,Z7,Y3,X7,R5,T9,U2,R9,U1,R7,R8,U0,R6,S9,J2,I4,Nat.reduceMul,Nat.reduceLT,q9,C8,G7,F7,l8,D6,q8,F6,F3,Bool.not_false,Bool.not_true,Bool.and_true,Bool.true_and,Bool.and_self,r9,D5,Nat.zero_add,Nat.reduceAdd,j4,F8,Nat.reduceBEq,G9,H6,E5,j6,A8,l7,l6,l9,C9,j4,F4,G6,G5,F9,H8,H9,D7,z8,D9,w9,o8,o9,F5,D8,I7,IntKind.bits,E9,A9,o7] <;> omega) | assumption) only [E8]⟩
theorem d1h (N:Nat) (call a0D call3:j5) (X:Ins) (tv lv:Value) (a b:Nat) (hA:X.A=.ofNat a) (hB:X.B=.ofNat b) (ha:a < 4294967296) (hb:b < 4294967296)
 (c:Nat) (h:Trie VObj) (h34:∀ hh,(∀ b,b < c → hh.get b=h.get b) → ∃ z:List Nat → List Nat, ∀ r w,go (call 34 [H7 X tv lv]) ⟨c + 1,hh,r,w⟩=some (.ret (.bool true),⟨c + 1,hh,z r,w⟩))
 (C:Calls12 N call a0D call3 X 11)
 (Ht:P6 c h tv (O9 X.types)) (Hl:P6 c h lv (O9 X.labels)) (r w:List Nat) :
 I6 (go (a0u G8 N call (H7 X tv lv)) ⟨c,h,r,w⟩) fun x s=>x=.ret (.string ⟨⟨M6 (V7 X.op) (M6 (a0V b) (Z8 a))⟩⟩) ∧ ∀ i,i < c → s.h.get i=h.get i:=by
 obtain ⟨z,h34'⟩:=h34 (upd h c (.cells [(.int .i64 X.op, 0),(.int .i64 X.A, 0),(.int .i64 X.B, 0),(.int .u64 (Int.ofNat X.N), 0),(.int .i64 X.k, 0),(.int .i64 X.v, 0),(.int .i64 X.i, 0),(tv, 0),(lv, 0)] 0 false)) (fun b hb=>E8 (by omega))
 obtain ⟨h35,h39,h36,h36',h37c,h37,h37',h38,h44,h96⟩:=C
 obtain ⟨ta,te,rfl,_⟩:=id Ht
 obtain ⟨la,le,rfl,_⟩:=id Hl
 simp only [H7,hA,hB,List.length_map] at h34'
 have nl:=a0e X.op
 have l1:=a0h a (by omega)
 have l2:=a0h b (by omega)
 have q1:=h37 a (by omega)
 have q2:=h37' b (by omega)
 have q3:=h37' a (by omega)
 have q4:=h37c a (by omega)
 cases hz:b.beq 0 with
 | true=>
   simp (config:={ maxSteps:=10000000 }) (disch:=first | assumption | omega | (simp only [Y9,Y2,Y1,Y8,Z5,Y6,Y4,X9,Y0,X8,Z4,Y7,Z0,Y5,Z6,Z7,Y3,X7,R5,T9,U2,R9,U1,R7,R8,U0,R6,S9,J2,I4,Nat.reduceMul,Nat.reduceLT,q9,C8,G7,F7,l8,D6,q8,F6,F3,Bool.not_false,Bool.not_true,Bool.and_true,Bool.true_and,Bool.and_self,r9,D5,Nat.zero_add,Nat.reduceAdd,j4,F8,Nat.reduceBEq,G9,H6,E5,j6,A8,l7,l6,l9,C9,j4,F4,G6,G5,F9,H8,H9,D7,z8,D9,w9,o8,o9,F5,D8,I7,IntKind.bits,E9,A9,o7] <;> omega) | assumption) only [a0u,a2B,a2t,a2s,a2u,a2z,a2v,a2r,a2w,a2A,a2y,a1r,a1O,a1A,a1q,a1E,a1s,a1g,a1y,a1W,a1J,a1T,a1l,a1X,a1M,a1K,a1j,a1v,a1R,a1P,a1z,a1V,a1L,a1C,a1o,a1m,a1h,a1w,a1t,a1Q,a1S,a1F,a1N,a1Z,a1Y,a1D,a1H,a1f,a1B,a1k,a1G,a1n,a0o,a1u,a0q,a1i,a0t,a1x,a0r,a1p,a0s,a1e,a0p,a1I,a4h,a2L,a4p,a2M,a3b,a2Z,H7,hA,hB,List.length_map,h34',h35,h39,h36,h38,h44,h96,q1,hz,decide_true,K4,J4,V9,G6,G5,F9,Bool.not_true,U7,r9,D5,I5,Nat.reduceMul,ap9,a0P,a0Q,a2e,a2f,a0k,X6,a0g,V3,X4,a0J,bn,un,U6,a0d,V6,a2F,K6,I8,M0,J8,U5,O5,O4,A9,o7,K4,J4,l_0,l_s,P5,L9,V.d9Z,P7,Q8,Q7,a0S,U3,Q0,a0G,j6,l7,l9,U9,V4,a0l,R3,Q5,q9,C8,l8,Bool.and_self,K8,M9,P8,a0j,a0Z,V5,K7,N9,X5,I5,I9,E8,K9,N8,O6,Q9,J6,J7,Nat.zero_add,Nat.add_zero,Nat.reduceAdd,U8,O8,P9,a0L,V8]
   exact I6.done ⟨by simp only [a0V,Z8,K4,hz,  M7,List.nil_append,List.append_nil],fun i hi=>by simp (config:={ maxSteps:=10000000 }) (disch:=first | assumption | omega | (simp only [Y9,Y2,Y1,Y8,Z5,Y6,Y4,X9,Y0,X8,Z4,Y7,Z0,Y5,Z6,Z7,Y3,X7,R5,T9,U2,R9,U1,R7,R8,U0,R6,S9,J2,I4,Nat.reduceMul,Nat.reduceLT,q9,C8,G7,F7,l8,D6,q8,F6,F3,Bool.not_false,Bool.not_true,Bool.and_true,Bool.true_and,Bool.and_self,r9,D5,Nat.zero_add,Nat.reduceAdd,j4,F8,Nat.reduceBEq,G9,H6,E5,j6,A8,l7,l6,l9,C9,j4,F4,G6,G5,F9,H8,H9,D7,z8,D9,w9,o8,o9,F5,D8,I7,IntKind.bits,E9,A9,o7] <;> omega) | assumption) only [E8]⟩
 | false=>
   simp (config:={ maxSteps:=10000000 }) (disch:=first | assumption | omega | (simp only [Y9,Y2,Y1,Y8,Z5,Y6,Y4,X9,Y0,X8,Z4,Y7,Z0,Y5,Z6,Z7,Y3,X7,R5,T9,U2,R9,U1,R7,R8,U0,R6,S9,J2,I4,Nat.reduceMul,Nat.reduceLT,q9,C8,G7,F7,l8,D6,q8,F6,F3,Bool.not_false,Bool.not_true,Bool.and_true,Bool.true_and,Bool.and_self,r9,D5,Nat.zero_add,Nat.reduceAdd,j4,F8,Nat.reduceBEq,G9,H6,E5,j6,A8,l7,l6,l9,C9,j4,F4,G6,G5,F9,H8,H9,D7,z8,D9,w9,o8,o9,F5,D8,I7,IntKind.bits,E9,A9,o7] <;> omega) | assumption) only [a0u,a2B,a2t,a2s,a2u,a2z,a2v,a2r,a2w,a2A,a2y,a1r,a1O,a1A,a1q,a1E,a1s,a1g,a1y,a1W,a1J,a1T,a1l,a1X,a1M,a1K,a1j,a1v,a1R,a1P,a1z,a1V,a1L,a1C,a1o,a1m,a1h,a1w,a1t,a1Q,a1S,a1F,a1N,a1Z,a1Y,a1D,a1H,a1f,a1B,a1k,a1G,a1n,a0o,a1u,a0q,a1i,a0t,a1x,a0r,a1p,a0s,a1e,a0p,a1I,a4h,a2L,a4p,a2M,a3b,a2Z,H7,hA,hB,List.length_map,h34',h35,h39,h36,h36',h38,h44,h96,q1,q2,hz,decide_true,K4,J4,V9,G6,G5,F9,Bool.not_true,Bool.not_false,U7,r9,D5,I5,Nat.reduceMul,ap9,a0P,a0Q,a2e,a2f,a0k,X6,a0g,V3,X4,a0J,bn,un,U6,a0d,V6,a2F,K6,I8,M0,J8,U5,O5,O4,A9,o7,K4,J4,l_0,l_s,P5,L9,V.d9Z,P7,Q8,Q7,a0S,U3,Q0,a0G,j6,l7,l9,U9,V4,a0l,R3,Q5,q9,C8,l8,Bool.and_self,K8,M9,P8,a0j,a0Z,V5,K7,N9,X5,I5,I9,E8,K9,N8,O6,Q9,J6,J7,Nat.zero_add,Nat.add_zero,Nat.reduceAdd,U8,O8,P9,a0L,V8]
   exact I6.done ⟨by simp only [a0V,Z8,J4,hz,  M7,List.cons_append,List.append_nil],fun i hi=>by simp (config:={ maxSteps:=10000000 }) (disch:=first | assumption | omega | (simp only [Y9,Y2,Y1,Y8,Z5,Y6,Y4,X9,Y0,X8,Z4,Y7,Z0,Y5,Z6,Z7,Y3,X7,R5,T9,U2,R9,U1,R7,R8,U0,R6,S9,J2,I4,Nat.reduceMul,Nat.reduceLT,q9,C8,G7,F7,l8,D6,q8,F6,F3,Bool.not_false,Bool.not_true,Bool.and_true,Bool.true_and,Bool.and_self,r9,D5,Nat.zero_add,Nat.reduceAdd,j4,F8,Nat.reduceBEq,G9,H6,E5,j6,A8,l7,l6,l9,C9,j4,F4,G6,G5,F9,H8,H9,D7,z8,D9,w9,o8,o9,F5,D8,I7,IntKind.bits,E9,A9,o7] <;> omega) | assumption) only [E8]⟩
end Go.Proofs.YtmomonnlmbljoaaGreatDoor
end
