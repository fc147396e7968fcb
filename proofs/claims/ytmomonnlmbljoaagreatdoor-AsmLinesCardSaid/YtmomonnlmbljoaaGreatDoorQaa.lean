import GoSem.Step
section
noncomputable section
namespace Go.V
def M4 {α:Type} (l:List α):Nat:=List.rec (motive:=fun _=>Nat) 0 (fun _ _ n=>n + 1) l
def a3s {α:Type} (l:List α):Nat → Option α:=
 List.rec (motive:=fun _=>Nat → Option α) (fun _=>none) (fun v _ ih i=>Nat.rec (motive:=fun _=>Option α) (some v) (fun i _=>ih i) i) l
def a3l {α:Type} (l:List α):Nat → List α:=
 List.rec (motive:=fun _=>Nat → List α) (fun _=>[]) (fun v l ih i=>Nat.rec (motive:=fun _=>List α) (v :: l) (fun i _=>ih i) i) l
def a6d {α:Type} (l:List α):Nat → List α:=
 List.rec (motive:=fun _=>Nat → List α) (fun _=>[]) (fun v _ ih i=>Nat.rec (motive:=fun _=>List α) [] (fun i _=>v :: ih i) i) l
def M6 {α:Type} (l m:List α):List α:=List.rec (motive:=fun _=>List α) m (fun v _ ih=>v :: ih) l
def a2m {α β:Type} (f:α → β) (l:List α):List β:=List.rec (motive:=fun _=>List β) [] (fun v _ ih=>f v :: ih) l
def a0N {α:Type} (f:α → Bool) (l:List α):Bool:=List.rec (motive:=fun _=>Bool) true (fun v _ ih=>Bool.rec (motive:=fun _=>Bool) false ih (f v)) l
def beqBytes (l:List UInt8):List UInt8 → Bool:=
 List.rec (motive:=fun _=>List UInt8 → Bool) (fun m=>match m with | []=>true | _ :: _=>false)
  (fun v _ ih m=>match m with | []=>false | w :: m=>Bool.rec (motive:=fun _=>Bool) false (ih m) (Nat.beq v.toNat w.toNat)) l
def a7v (l:List UInt8):List UInt8 → Bool:=
 List.rec (motive:=fun _=>List UInt8 → Bool) (fun m=>match m with | []=>false | _ :: _=>true)
  (fun v _ ih m=>match m with | []=>false | w :: m=>match Nat.blt v.toNat w.toNat with
    | true=>true
    | false=>match Nat.beq v.toNat w.toNat with
      | true=>ih m
      | false=>false) l
inductive Trie (α:Type) where
 | leaf
 | node (v:Option α) (l r:Trie α)
def Trie.get {α:Type} (t:Trie α):Nat → Option α:=
 Trie.rec (motive:=fun _=>Nat → Option α) (fun _=>none)
  (fun v _ _ gl gr n=>match n with
    | 0=>v
    | k + 1=>match k % 2 with
      | 0=>gl (k / 2)
      | _ + 1=>gr (k / 2)) t
def Trie.putK {α β:Type} (o:Option α) (f:Nat):Trie α → Nat → (Trie α → β) → β:=
 Nat.rec (motive:=fun _=>Trie α → Nat → (Trie α → β) → β) (fun t _ q=>q t)
  (fun _ ih t n q=>match n with
    | 0=>match t with
      | .leaf=>q (.node o .leaf .leaf)
      | .node _ l r=>q (.node o l r)
    | k + 1=>match t with
      | .leaf=>match k % 2 with
        | 0=>ih .leaf (k / 2) fun t=>q (.node none t .leaf)
        | _ + 1=>ih .leaf (k / 2) fun t=>q (.node none .leaf t)
      | .node v l r=>match k % 2 with
        | 0=>ih l (k / 2) fun t=>q (.node v t r)
        | _ + 1=>ih r (k / 2) fun t=>q (.node v l t)) f
def a7U {α:Type} (n:Nat) (k:Nat → α):α:=match n with
 | 0=>k 0
 | m + 1=>k (m + 1)
def c3Q {α:Type} (n:Int) (k:Int → α):α:=match n with
 | .ofNat m=>a7U m fun m=>k (.ofNat m)
 | .negSucc m=>a7U m fun m=>k (.negSucc m)
def fList {β α:Type} (l:List β):(List β → α) → α:=
 List.rec (motive:=fun _=>(List β → α) → α) (fun k=>k []) (fun x _ ih k=>ih fun l=>k (x :: l)) l
def c0S {α:Type} (g:Option Nat) (k:Option Nat → α):α:=match g with
 | none=>k none
 | some g=>a7U g fun g=>k (some g)
def b5x {α:Type} (a:Option Addr) (k:Option Addr → α):α:=match a with
 | none=>k none
 | some a=>a7U a.block fun b=>a7U a.off fun off=>c0S a.spot fun g=>k (some ⟨b,off,g⟩)
def a7L {α:Type} (v:Value) (k:Value → α):α:=match v with
 | .int kd n=>c3Q n fun n=>k (.int kd n)
 | .bool b=>match b with
   | true=>k (.bool true)
   | false=>k (.bool false)
 | .string s=>k (.string s)
 | .pointer a=>b5x a fun a=>k (.pointer a)
 | .slice a n c=>b5x a fun a=>a7U n fun n=>a7U c fun c=>k (.slice a n c)
 | .agg cs=>fList cs.toList fun l=>k (.agg ⟨l⟩)
 | .tuple cs=>fList cs.toList fun l=>k (.tuple ⟨l⟩)
 | v=>k v
inductive VObj where
 | cells (cs:List (Value × Nat)) (cur:Nat) (ro:Bool)
 | map (es:List (Value × Value))
 | siter (s:ByteArray) (pos:Nat)
structure S where
 c:Nat
 h:Trie VObj
 r:List Nat
 w:List Nat
def M (α:Type):Type:=S → Option (α × S)
def M.pure {α:Type} (a:α):M α:=fun s=>some (a,s)
def M.bind {α β:Type} (m:M α) (f:α → M β):M β:=fun s=>match m s with
 | none=>none
 | some x=>f x.1 x.2
def M.fail {α:Type}:M α:=fun _=>none
def M.lift {α:Type} (o:Option α):M α:=fun s=>match o with
 | none=>none
 | some a=>some (a,s)
def M.obind {α β:Type} (o:Option α) (f:α → M β):M β:=match o with
 | none=>M.fail
 | some a=>f a
def M.guard {α:Type} (b:Bool) (m:M α):M α:=match b with
 | true=>m
 | false=>M.fail
def rd (i:Nat):M VObj:=fun s=>match Nat.blt i s.c with
 | true=>match s.h.get i with
   | some o=>some (o,⟨s.c,s.h,i :: s.r,s.w⟩)
   | none=>none
 | false=>none
def wr (i:Nat) (o:VObj):M Unit:=fun s=>match Nat.blt i s.c with
 | true=>match s.h.get i with
   | some _=>Trie.putK (some o) (i + 1) s.h i fun h=>some ((),⟨s.c,h,s.r,i :: s.w⟩)
   | none=>none
 | false=>none
def new (o:VObj):M Nat:=fun s=>
 Trie.putK (some o) (s.c + 1) s.h s.c fun h=>a7U (s.c + 1) fun c=>some (s.c,⟨c,h,s.r,s.c :: s.w⟩)
structure TI where
 und:TypeDesc
 size:Nat
 bytes:Nat
 zero:Value
structure Tab where
 types:Trie TI
 funcs:Trie Func
 ng:Nat
def a3e {α:Type} (p:Program) (s:Sem α):Option α:=
 Sem.rec (motive:=fun _=>Option α) (fun a=>some a) (fun _ _ _ _=>none) (fun _ _ _ _ _=>none) (fun _ _ _=>none) (fun _ _ _=>none)
  (fun _ _ _ _=>none) (fun _ _ _=>none) (fun _ _ _=>none) (fun _ _ _ _=>none) (fun _ _ _=>none) (fun _ _ _=>none)
  (fun _ ih=>ih p) (fun _ _ ih=>ih) (fun _=>none) s
def plain:Value → Bool
 | .bool _=>true
 | .int ..=>true
 | .float ..=>true
 | .complex ..=>true
 | .string _=>true
 | .pointer a=>a.isNone
 | .slice a n c=>a.isNone && Nat.beq n 0 && Nat.beq c 0
 | .map r=>r.isNone
 | .nilFunc=>true
 | .nilIface=>true
 | _=>false
def a0y (n:Nat):Value → Bool:=
 Nat.rec (motive:=fun _=>Value → Bool) (fun _=>false) (fun _ ih v=>match v with
  | .agg cs=>a0N ih cs.toList
  | .tuple cs=>a0N ih cs.toList
  | .iface _ v=>ih v
  | v=>plain v) n
def d9 (l:List Value):Nat → Value:=
 List.rec (motive:=fun _=>Nat → Value) (fun _=>undef) (fun v _ ih i=>Nat.rec (motive:=fun _=>Value) v (fun i _=>ih i) i) l
def a8A (l:List Value):Nat → Value → List Value:=
 List.rec (motive:=fun _=>Nat → Value → List Value) (fun _ _=>[])
  (fun v l ih i x=>Nat.rec (motive:=fun _=>List Value) (x :: l) (fun i _=>v :: ih i x) i) l
def a2H (T:Tab) (fr:List Value):Operand → Option Value
 | .tmp t=>some (d9 fr t)
 | .const v=>match a0y 3 v with
   | true=>some v
   | false=>none
 | .global g=>match Nat.blt g T.ng with
   | true=>some (.pointer (some ⟨g, 0,some 0⟩))
   | false=>none
 | .func f=>some (.func (.func f) #[] #[])
def a3i (T:Tab) (fr:List Value) (os:List Operand):Option (List Value):=
 List.rec (motive:=fun _=>Option (List Value)) (some []) (fun o _ ih=>match a2H T fr o with
  | none=>none
  | some v=>match ih with
    | none=>none
    | some vs=>some (v :: vs)) os
def ev (T:Tab) (fr:List Value) (x:Operand) (k:Value → M Value):M Value:=M.obind (a2H T fr x) k
def evs (T:Tab) (fr:List Value) (x:List Operand) (k:List Value → M Value):M Value:=M.obind (a3i T fr x) k
def a0w (g:Nat) (cs:List (Value × Nat)):Nat → Option (List Value):=
 List.rec (motive:=fun _=>Nat → Option (List Value)) (fun n=>match n with | 0=>some [] | _ + 1=>none)
  (fun c _ ih n=>match n with
    | 0=>some []
    | n + 1=>match Nat.ble c.2 g with
      | true=>match ih n with
        | some vs=>some (c.1 :: vs)
        | none=>none
      | false=>none) cs
def a5a (g:Nat) (vs:List Value):List (Value × Nat) → List (Value × Nat):=
 List.rec (motive:=fun _=>List (Value × Nat) → List (Value × Nat)) (fun cs=>cs)
  (fun v _ ih cs=>match cs with
    | []=>(v,g) :: ih []
    | _ :: cs=>(v,g) :: ih cs) vs
def a5F (g:Nat) (vs:List Value) (cs:List (Value × Nat)):Nat → Option (List (Value × Nat)):=
 List.rec (motive:=fun _=>Nat → Option (List (Value × Nat))) (fun n=>match n with | 0=>some (a5a g vs []) | _ + 1=>none)
  (fun c cs ih n=>match n with
    | 0=>some (a5a g vs (c :: cs))
    | n + 1=>match ih n with
      | some cs'=>some (c :: cs')
      | none=>none) cs
def a1c:Value → Bool
 | .agg _=>false
 | .tuple _=>false
 | _=>true
def a7z {α:Type} (o:VObj) (k:List (Value × Nat) → Nat → Bool → M α):M α:=match o with
 | .cells cs cur ro=>k cs cur ro
 | _=>M.fail
def loadN (a:Addr) (n:Nat):M (List Value):=
 M.obind a.spot fun g=>M.bind (rd a.block) fun o=>a7z o fun cs _ _=>M.lift (a0w g (a3l cs a.off) n)
def storeN (a:Addr) (vs:List Value):M Unit:=
 M.obind a.spot fun g=>M.bind (rd a.block) fun o=>a7z o fun cs cur ro=>
  M.guard (Nat.beq g cur && !ro && a0N a1c vs && Nat.ble (a.off + M4 vs) (M4 cs)) <|
  M.obind (a5F g vs cs a.off) fun cs'=>fList cs' fun cs'=>wr a.block (.cells cs' cur ro)
def a2q (vs:List Value):M Addr:=
 M.guard (a0N a1c vs) <| fList (a2m (fun v=>(v, 0)) vs) fun cs=>M.bind (new (.cells cs 0 false)) fun b=>M.pure ⟨b, 0,some 0⟩
def fwd (a:Addr) (n:Nat):Addr:=⟨a.block,a.off + n,a.spot⟩
def a8i:Value → Option Nat
 | .int _ n=>match n with
   | .ofNat m=>some m
   | .negSucc _=>none
 | _=>none
def a5Y (d:Nat):Option Value → Option Nat
 | none=>some d
 | some v=>a8i v
def a5e {α:Type} (v:Value) (k:Addr → M α):M α:=match v with
 | .pointer a=>M.obind a k
 | _=>M.fail
def b1x:TypeDesc → Bool
 | .struct _=>true
 | .array _ _=>true
 | _=>false
def I7:IntKind → Nat
 | .i8=>128
 | .i16=>32768
 | .i32=>2147483648
 | .i64=>9223372036854775808
 | .u8=>256
 | .u16=>65536
 | .u32=>4294967296
 | .u64=>18446744073709551616
def a1d (k:IntKind) (n:Int):Int:=match n with
 | .ofNat m=>match Nat.blt m (I7 k) with
   | true=>.ofNat m
   | false=>k.wrap (.ofNat m)
 | .negSucc m=>match k.signed && Nat.blt m (I7 k) with
   | true=>.negSucc m
   | false=>k.wrap (.negSucc m)
section
variable (p:Program) (T:Tab)
def ti {α:Type} (t:TypeId) (k:TI → M α):M α:=M.obind (T.types.get t) k
def a8k (t:TypeId) (a:Addr):M Value:=ti T t fun i=>match b1x i.und with
 | true=>M.guard (!(Nat.beq i.size 0)) <| M.bind (loadN a i.size) fun vs=>M.pure (.agg ⟨vs⟩)
 | false=>M.bind (loadN a 1) fun vs=>M.pure (d9 vs 0)
def b6B (t:TypeId) (a:Addr) (v:Value):M Unit:=ti T t fun i=>
 M.guard (!(Nat.beq i.size 0) && Nat.beq (M4 v.cells.toList) i.size) <| storeN a v.cells.toList
def a6w:Nat:=4294967296
def elemAt (a:Addr) (i len elem:Nat):M Value:=ti T elem fun e=>
 M.guard (Nat.blt i len && !(Nat.beq e.size 0)) <| M.pure (.pointer (some (fwd a (i * e.size))))
def b3G (t:TypeId) (x ix:Value):M Value:=ti T t fun d=>M.obind (a8i ix) fun i=>match d.und with
 | .array len elem=>a5e x fun a=>elemAt T a i len elem
 | .slice elem=>match x with
   | .slice a len es=>M.obind a fun a=>ti T elem fun e=>M.guard (Nat.beq es e.size) <| elemAt T a i len elem
   | _=>M.fail
 | _=>M.fail
def b3A (t:TypeId) (x:Value) (f:Nat):M Value:=ti T t fun d=>match d.und with
 | .struct fields=>a5e x fun a=>M.obind (a3s fields.toList f) fun fd=>ti T fd.type fun n=>
   M.guard (!(Nat.beq n.size 0)) <| M.pure (.pointer (some (fwd a fd.offset)))
 | _=>M.fail
def cut (a:Addr) (len elem:Nat) (lo hi:Option Value):M Value:=ti T elem fun e=>
 M.obind (a5Y 0 lo) fun l=>M.obind (a5Y len hi) fun h=>
 M.guard (Nat.ble l h && Nat.ble h len && !(Nat.beq e.size 0)) <| M.pure (.slice (some (fwd a (l * e.size))) (h - l) e.size)
def b1v (s:ByteArray) (lo hi:Option Value):M Value:=
 M.obind (a5Y 0 lo) fun l=>M.obind (a5Y (M4 s.data.toList) hi) fun h=>
 M.guard (Nat.ble l h && Nat.ble h (M4 s.data.toList)) <| fList (a6d (a3l s.data.toList l) (h - l)) fun b=>M.pure (.string ⟨⟨b⟩⟩)
def cutNil (lo hi:Option Value):M Value:=
 M.obind (a5Y 0 lo) fun l=>M.obind (a5Y 0 hi) fun h=>M.guard (Nat.beq l 0 && Nat.beq h 0) <| M.pure (.slice none 0 0)
def c2A (t:TypeId) (x:Value) (lo hi mx:Option Value):M Value:=ti T t fun d=>M.guard mx.isNone <| match d.und with
 | .string=>match x with
   | .string s=>b1v s lo hi
   | _=>M.fail
 | .slice elem=>match x with
   | .slice a len es=>ti T elem fun e=>match a with
     | some a=>M.guard (Nat.beq es e.size) <| cut T a len elem lo hi
     | none=>M.guard (Nat.beq len 0) <| cutNil lo hi
   | _=>M.fail
 | .array len elem=>a5e x fun a=>ti T elem fun e=>M.bind (loadN a (len * e.size)) fun _=>cut T a len elem lo hi
 | _=>M.fail
def a6f (zs:List Value) (n:Nat):List Value:=Nat.rec (motive:=fun _=>List Value) [] (fun _ ih=>M6 zs ih) n
def b3s (t:TypeId) (len cap:Value):M Value:=ti T t fun d=>match d.und with
 | .slice elem=>ti T elem fun e=>M.obind (a8i len) fun l=>M.obind (a8i cap) fun c=>
   M.guard (Nat.ble l c && Nat.blt c a6w && Nat.blt e.bytes 4096 && Nat.beq (M4 e.zero.cells.toList) e.size && !(Nat.beq e.size 0) && a0y 8 e.zero) <|
   M.bind (a2q (a6f e.zero.cells.toList l)) fun a=>M.pure (.slice (some a) l e.size)
 | _=>M.fail
def pureV (o:Option Value):M Value:=M.obind o fun v=>M.guard (a0y 3 v) <| M.pure v
def a7C (b:UInt8):Value:=.int .u8 b.toNat
def b4g:Value → Option UInt8
 | .int .u8 n=>some (UInt8.ofNat n.toNat)
 | _=>none
def b1J (vs:List Value):Option (List UInt8):=
 List.rec (motive:=fun _=>Option (List UInt8)) (some []) (fun v _ ih=>match b4g v with
  | none=>none
  | some b=>match ih with
    | some bs=>some (b :: bs)
    | none=>none) vs
def a8W (size:Nat) (x:Value):M (List Value):=match x with
 | .slice a len es=>match a with
   | none=>M.guard (Nat.beq len 0) <| M.pure []
   | some a=>match len with
     | 0=>M.pure []
     | len + 1=>M.guard (Nat.beq es size) <| loadN a ((len + 1) * size)
 | .string s=>M.guard (Nat.beq size 1) <| M.pure (a2m a7C s.data.toList)
 | _=>M.fail
def b2s:Value → Bool
 | .slice ..=>true
 | _=>false
def b3i:TypeDesc → Bool
 | .int _=>true
 | _=>false
def appendAt (e:TI) (a:Addr) (len:Nat) (vs:List Value) (m:Nat):M Value:=
 M.obind a.spot fun g=>M.bind (rd a.block) fun o=>a7z o fun cs cur ro=>M.guard (!ro) <|
 M.guard (Nat.ble (a.off + len * e.size) (M4 cs)) <| M.obind (a0w g (a3l cs a.off) (len * e.size)) fun _=>
 fList (M6 (a6d cs (a.off + len * e.size)) (a2m (fun v=>(v,cur + 1)) vs)) fun cs'=>M.bind (wr a.block (.cells cs' (cur + 1) ro)) fun _=>
 M.pure (.slice (some ⟨a.block,a.off,some (cur + 1)⟩) (len + m) e.size)
def a4s (e:TI) (s:Value) (vs:List Value):M Value:=match vs with
 | []=>M.guard (b2s s) <| M.pure s
 | v :: vs=>match s with
   | .slice base len es=>a7U ((M4 vs + 1) / e.size) fun m=>
     M.guard (Nat.beq (m * e.size) (M4 vs + 1) && a0N a1c (v :: vs) && Nat.blt ((len + m) * 4) a6w && Nat.blt e.bytes 4096) <|
     match base with
     | none=>M.guard (Nat.beq len 0) <| M.bind (a2q (v :: vs)) fun a=>M.pure (.slice (some a) m e.size)
     | some a=>M.guard (Nat.beq es e.size) <| appendAt e a len (v :: vs) m
   | _=>M.fail
def appendV (argTypes:Array TypeId) (args:List Value):M Value:=M.obind (a3s argTypes.toList 0) fun st=>M.obind (a3s argTypes.toList 1) fun xt=>
 ti T st fun d=>ti T xt fun dx=>match d.und with
 | .slice elem=>M.obind (a3s args 0) fun s=>M.obind (a3s args 1) fun x=>
   ti T elem fun e=>M.guard (!b3i dx.und && !(Nat.beq e.size 0)) <| M.bind (a8W e.size x) fun vs=>fList vs fun vs=>a4s e s vs
 | _=>M.fail
def a4R:Value → Value → Option Bool
 | .int a x,.int b y=>match decide (a=b) with
   | true=>some (decide (x=y))
   | false=>none
 | .string x,.string y=>some (beqBytes x.data.toList y.data.toList)
 | .bool x,.bool y=>some (x == y)
 | _,_=>none
def b5l (k:Value) (es:List (Value × Value)):Option (Option Value):=
 List.rec (motive:=fun _=>Option (Option Value)) (some none) (fun e _ ih=>match a4R k e.1 with
  | none=>none
  | some true=>some (some e.2)
  | some false=>ih) es
def b1h (k v:Value) (es:List (Value × Value)):List (Value × Value):=
 List.rec (motive:=fun _=>List (Value × Value)) [(k,v)] (fun e es ih=>match a4R k e.1 with
  | some true=>(k,v) :: es
  | _=>e :: ih) es
def a8a:TypeDesc → Value → Bool
 | .int k,.int k' _=>decide (k=k')
 | .string,.string _=>true
 | .bool,.bool _=>true
 | _,_=>false
def c1m {α:Type} (o:VObj) (k:List (Value × Value) → M α):M α:=match o with
 | .map es=>k es
 | _=>M.fail
def b9Z (r:Nat):M (List (Value × Value)):=M.bind (rd r) fun o=>c1m o M.pure
def b1A (x:Value):M (List (Value × Value)):=match x with
 | .map r=>match r with
   | none=>M.pure []
   | some r=>b9Z r
 | _=>M.fail
def a9K (commaOk:Bool) (v:Value) (b:Bool):Value:=match commaOk with
 | true=>.tuple #[v,.bool b]
 | false=>v
def b9o (t:TypeId) (x ix:Value) (commaOk:Bool):M Value:=ti T t fun d=>match d.und with
 | .map key elem=>ti T key fun kd=>ti T elem fun ed=>M.guard (a8a kd.und ix) <| M.bind (b1A x) fun es=>M.obind (b5l ix es) fun o=>match o with
   | some v=>M.pure (a9K commaOk v true)
   | none=>M.guard (a0y 8 ed.zero) <| M.pure (a9K commaOk ed.zero false)
 | _=>M.fail
def b0v (t:TypeId) (m k v:Value):M Unit:=ti T t fun d=>match d.und with
 | .map key _=>match m with
   | .map r=>M.obind r fun r=>ti T key fun kd=>M.guard (a8a kd.und k) <| M.bind (b9Z r) fun es=>M.obind (b5l k es) fun _=>
     fList (b1h k v es) fun es'=>wr r (.map es')
   | _=>M.fail
 | _=>M.fail
def c2R (d:TypeDesc) (x:Value):M Value:=match d with
 | .array n _=>M.pure (goInt n)
 | .string=>match x with
   | .string s=>M.pure (goInt (M4 s.data.toList))
   | _=>M.fail
 | .slice _=>match x with
   | .slice _ n _=>M.pure (goInt n)
   | _=>M.fail
 | .map _ _=>M.bind (b1A x) fun es=>M.pure (goInt (M4 es))
 | _=>M.fail
def b9x:TypeDesc → Bool
 | .int .u8=>true
 | _=>false
def b9i (e:TypeId) (b:ByteArray):M Value:=ti T e fun i=>M.guard (b9x i.und && Nat.blt (M4 b.data.toList) a6w) <|
 M.bind (a2q (a2m a7C b.data.toList)) fun a=>M.pure (.slice (some a) (M4 b.data.toList) 1)
def convBytes (e:TypeId) (x:Value):M Value:=ti T e fun i=>M.guard (b9x i.und) <|
 M.bind (a8W 1 x) fun vs=>M.obind (b1J vs) fun bs=>M.pure (.string ⟨⟨bs⟩⟩)
def b6U (src dst:TypeId) (x:Value):M Value:=ti T src fun s=>ti T dst fun d=>match d.und with
 | .int k=>match x with
   | .int _ n=>M.pure (.int k (a1d k n))
   | _=>M.fail
 | .slice e=>match x with
   | .string b=>b9i T e b
   | _=>M.fail
 | .string=>match x with
   | .string b=>M.pure (.string b)
   | .int _ n=>M.pure (.string (Utf8.encode n))
   | _=>match s.und with
     | .slice e=>M.guard (b2s x) <| convBytes T e x
     | _=>M.fail
 | _=>M.fail
def b1p (fr:List Value) (c a b:Operand):M Value:=ev T fr c fun vc=>ev T fr a fun va=>ev T fr b fun vb=>match vc with
 | .bool t=>match t with
   | true=>M.pure va
   | false=>M.pure vb
 | _=>M.fail
def F3 {α:Type}:List α → Bool
 | []=>true
 | _ :: _=>false
def b9l (t:TypeId):M Value:=ti T t fun i=>M.guard (a0y 8 i.zero && !(F3 i.zero.cells.toList)) <|
 M.bind (a2q i.zero.cells.toList) fun a=>M.pure (.pointer (some a))
def b3x (fr:List Value) (x:Operand):M Value:=ev T fr x fun v=>M.guard (!(F3 v.cells.toList)) <|
 M.bind (a2q v.cells.toList) fun a=>M.pure (.pointer (some a))
def a6K (vs:List Value):List Value → List Value:=
 List.rec (motive:=fun _=>List Value → List Value) (fun cs=>cs) (fun v _ ih cs=>match cs with
  | []=>[]
  | _ :: cs=>v :: ih cs) vs
def a4E (vs:List Value) (cs:List Value):Nat → List Value:=
 List.rec (motive:=fun _=>Nat → List Value) (fun _=>[]) (fun c cs ih n=>match n with
  | 0=>a6K vs (c :: cs)
  | n + 1=>c :: ih n) cs
def b0I (place:Nat → Option (Nat × Nat)) (qs:List (Nat × Operand)):List Value → List Value → Option (List Value):=
 List.rec (motive:=fun _=>List Value → List Value → Option (List Value)) (fun _ cs=>some cs) (fun q _ ih vs cs=>match vs with
  | []=>none
  | v :: vs=>match place q.1 with
    | none=>none
    | some os=>match Nat.beq (M4 v.cells.toList) os.2 && Nat.ble (os.1 + os.2) (M4 cs) with
      | true=>ih vs (a4E v.cells.toList cs os.1)
      | false=>none) qs
def a7e (fields:List Field) (j:Nat):Option (Nat × Nat):=match a3s fields j with
 | none=>none
 | some f=>match T.types.get f.type with
   | none=>none
   | some i=>some (f.offset,i.size)
def a5O (size j:Nat):Option (Nat × Nat):=some (j * size,size)
def c0A (f:Field):Bool:=(T.types.get f.type).isSome
def a9G (fr:List Value) (t:TypeId) (ps:Array (Nat × Operand)):M Value:=evs T fr (a2m (·.2) ps.toList) fun vs=>ti T t fun i=>
 M.guard (a0y 8 i.zero) <| match i.und with
 | .struct fields=>M.guard (a0N (c0A T) fields.toList) <|
   M.obind (b0I (a7e T fields.toList) ps.toList vs i.zero.cells.toList) fun cs=>M.pure (.agg ⟨cs⟩)
 | .array _ elem=>ti T elem fun e=>M.obind (b0I (a5O e.size) ps.toList vs i.zero.cells.toList) fun cs=>M.pure (.agg ⟨cs⟩)
 | _=>M.fail
def a6A (fr:List Value) (t:TypeId) (len:Nat) (ps:Array (Nat × Operand)):M Value:=evs T fr (a2m (·.2) ps.toList) fun vs=>ti T t fun d=>
 match d.und with
 | .slice elem=>ti T elem fun e=>
   M.guard (Nat.beq (M4 e.zero.cells.toList) e.size && !(Nat.beq e.size 0) && a0y 8 e.zero && Nat.ble (len * e.size) 16777216) <|
   M.obind (b0I (a5O e.size) ps.toList vs (a6f e.zero.cells.toList len)) fun cs=>
   M.bind (a2q cs) fun a=>M.pure (.slice (some a) len e.size)
 | _=>M.fail
def b1j (fr:List Value) (t:TypeId) (x:Operand):M Value:=ev T fr x fun v=>a5e v fun a=>a8k T t a
def a9Y (fr:List Value) (t:TypeId) (x y:Operand):M Value:=ev T fr x fun va=>ev T fr y fun v=>a5e va fun a=>
 M.bind (b6B T t a v) fun _=>M.pure undef
def c3a:Fn → Bool
 | .func _=>true
 | _=>false
def a7I (fr:List Value) (x:Operand):M Value:=ev T fr x fun v=>match v with
 | .pointer a=>M.guard a.isSome <| M.pure (.pointer a)
 | .func fn a b=>M.guard (c3a fn) <| M.pure (.func fn a b)
 | _=>M.fail
def b1R (op:BinOp) (k:IntKind) (a b:Int):Option Value:=match op with
 | .add=>some (.int k (a1d k (a + b)))
 | .sub=>some (.int k (a1d k (a - b)))
 | .mul=>some (.int k (a1d k (a * b)))
 | .eql=>some (.bool (decide (a=b)))
 | .neq=>some (.bool (!(decide (a=b))))
 | .lss=>some (.bool (decide (a < b)))
 | .leq=>some (.bool (decide (a ≤ b)))
 | .gtr=>some (.bool (decide (b < a)))
 | .geq=>some (.bool (decide (b ≤ a)))
 | _=>none
def a2Y:IntKind → IntKind → Bool
 | .i8,.i8=>true
 | .i16,.i16=>true
 | .i32,.i32=>true
 | .i64,.i64=>true
 | .u8,.u8=>true
 | .u16,.u16=>true
 | .u32,.u32=>true
 | .u64,.u64=>true
 | _,_=>false
def a9i (k:IntKind) (m:Nat):Nat:=match Nat.ble m k.bits with
 | true=>m
 | false=>k.bits
def b5A (op:BinOp) (k:IntKind) (n m:Nat):Option Value:=match op with
 | .quo=>match m with
   | 0=>none
   | m + 1=>some (.int k (a1d k (.ofNat (Nat.div n (Nat.succ m)))))
 | .rem=>match m with
   | 0=>none
   | m + 1=>some (.int k (.ofNat (Nat.mod n (Nat.succ m))))
 | .and=>some (.int k (a1d k (.ofNat (Nat.land (Nat.mod n (Nat.pow 2 k.bits)) (Nat.mod m (Nat.pow 2 k.bits))))))
 | .or=>some (.int k (a1d k (.ofNat (Nat.lor (Nat.mod n (Nat.pow 2 k.bits)) (Nat.mod m (Nat.pow 2 k.bits))))))
 | .xor=>some (.int k (a1d k (.ofNat (Nat.xor (Nat.mod n (Nat.pow 2 k.bits)) (Nat.mod m (Nat.pow 2 k.bits))))))
 | _=>none
def a6c (op:BinOp) (k:IntKind) (n m:Nat):Option Value:=match op with
 | .shl=>some (.int k (a1d k (.ofNat (Nat.mul n (Nat.pow 2 (a9i k m))))))
 | .shr=>some (.int k (.ofNat (Nat.div n (Nat.pow 2 (a9i k m)))))
 | _=>none
def a6J (f:Nat → Nat → Option Value) (a b:Int):Option Value:=match a with
 | .ofNat n=>match b with
   | .ofNat m=>f n m
   | .negSucc _=>none
 | .negSucc _=>none
def a5n (op:BinOp) (k k':IntKind) (a b:Int):Option Value:=match a6J (a6c op k) a b with
 | some v=>some v
 | none=>match a2Y k k' with
   | true=>match b1R op k a b with
     | some v=>some v
     | none=>a6J (b5A op k) a b
   | false=>none
def b1H (op:BinOp) (x y:List UInt8):Option Value:=match op with
 | .add=>match Nat.blt (M4 x + M4 y) a6w with
   | true=>fList (M6 x y) fun l=>some (.string ⟨⟨l⟩⟩)
   | false=>none
 | .eql=>some (.bool (beqBytes x y))
 | .neq=>some (.bool (!(beqBytes x y)))
 | .lss=>some (.bool (a7v x y))
 | .leq=>some (.bool (a7v x y || beqBytes x y))
 | .gtr=>some (.bool (!(a7v x y || beqBytes x y)))
 | .geq=>some (.bool (!(a7v x y)))
 | _=>none
def c3l:BinOp → Bool
 | .eql=>true
 | .neq=>true
 | _=>false
def a5L (d:TypeDesc) (a:Value):Option Bool:=match d with
 | .pointer _=>match a with
   | .pointer o=>some o.isNone
   | _=>none
 | .slice _=>match a with
   | .slice o _ _=>some o.isNone
   | _=>none
 | .map _ _=>match a with
   | .map o=>some o.isNone
   | _=>none
 | .func _ _ _=>match a with
   | .nilFunc=>some true
   | .func _ _ _=>some false
   | _=>none
 | .interface _=>match a with
   | .nilIface=>some true
   | .iface _ _=>some false
   | _=>none
 | _=>none
def isConstO:Operand → Bool
 | .const _=>true
 | _=>false
def a9U (T:Tab) (op:BinOp) (t:TypeId) (x y:Operand) (a b:Value):Option Bool:=match c3l op && (isConstO x || isConstO y) with
 | true=>match T.types.get t with
   | some d=>match a5L d.und a with
     | some p=>match a5L d.und b with
       | some q=>match p || q with
         | true=>some (p && q)
         | false=>none
       | none=>none
     | none=>none
   | none=>none
 | false=>none
def b2y (op:BinOp) (r:Bool):Bool:=match op with
 | .neq=>!r
 | _=>r
def a8z (op:BinOp) (t:TypeId) (x y:Operand) (a b:Value):M Value:=match a9U T op t x y a b with
 | some r=>M.pure (.bool (b2y op r))
 | none=>M.guard (a0y 8 a && a0y 8 b) <| pureV (a3e p (do eqGuard op t x y a b; binOp op t a b))
def b2L (fr:List Value) (op:BinOp) (t:TypeId) (x y:Operand):M Value:=ev T fr x fun a=>ev T fr y fun b=>
 match a with
 | .int k n=>match b with
   | .int k' m=>match a5n op k k' n m with
     | some v=>M.pure v
     | none=>a8z p T op t x y a b
   | _=>M.fail
 | .string s=>match b with
   | .string s'=>M.lift (b1H op s.data.toList s'.data.toList)
   | _=>M.fail
 | _=>a8z p T op t x y a b
def b6p (fr:List Value) (op:UnOp) (x:Operand):M Value:=ev T fr x fun a=>M.guard (plain a) <| pureV (a3e p (Op.unary op a))
def a8p (fr:List Value) (s d:TypeId) (x:Operand):M Value:=ev T fr x fun a=>b6U T s d a
def c4u:TypeDesc → Bool
 | .interface _=>true
 | _=>false
def a9V (fr:List Value) (t:TypeId) (x:Operand):M Value:=ev T fr x fun a=>ti T t fun i=>M.guard (!(c4u i.und)) <| M.pure (.iface t a)
def b0T (fr:List Value) (fn:Fn) (a b:Array Operand):M Value:=evs T fr a.toList fun va=>evs T fr b.toList fun vb=>M.pure (.func fn ⟨va⟩ ⟨vb⟩)
def c2E:TypeDesc → Bool
 | .map _ _=>true
 | _=>false
def c2f:Value → Bool
 | .int ..=>true
 | _=>false
def b2Y (fr:List Value) (t:TypeId) (r:Option Operand):M Value:=match r with
 | none=>M.bind (new (.map [])) fun b=>M.pure (.map (some b))
 | some x=>ev T fr x fun v=>ti T t fun d=>M.guard (c2E d.und && c2f v) <| M.bind (new (.map [])) fun b=>M.pure (.map (some b))
def b0S (fr:List Value) (t:TypeId) (l c:Operand):M Value:=ev T fr l fun vl=>ev T fr c fun vc=>b3s T t vl vc
def a9D (fr:List Value) (t:TypeId) (x:Operand) (lo hi mx:Option Operand):M Value:=
 evs T fr lo.toList fun vlo=>evs T fr hi.toList fun vhi=>evs T fr mx.toList fun vmx=>ev T fr x fun a=>c2A T t a (a3s vlo 0) (a3s vhi 0) (a3s vmx 0)
def a7c (fr:List Value) (t:TypeId) (x:Operand) (f:Nat):M Value:=ev T fr x fun a=>b3A T t a f
def partV (t:TypeId) (cs:List Value) (off:Nat):M Value:=ti T t fun i=>match b1x i.und with
 | true=>M.pure (.agg ⟨a6d (a3l cs off) i.size⟩)
 | false=>M.obind (a3s cs off) M.pure
def b0f (fr:List Value) (t:TypeId) (x:Operand) (f:Nat):M Value:=ev T fr x fun a=>ti T t fun i=>match i.und with
 | .struct fields=>match a with
   | .agg cs=>M.obind (a3s fields.toList f) fun fd=>partV T fd.type cs.toList fd.offset
   | _=>M.fail
 | _=>M.fail
def a7g (fr:List Value) (t:TypeId) (x i:Operand):M Value:=ev T fr x fun a=>ev T fr i fun b=>b3G T t a b
def a9I (fr:List Value) (t:TypeId) (x i:Operand):M Value:=ev T fr x fun a=>ev T fr i fun b=>M.obind (a8i b) fun j=>ti T t fun d=>match d.und with
 | .string=>match a with
   | .string s=>M.obind (a3s s.data.toList j) fun b=>M.pure (a7C b)
   | _=>M.fail
 | .array len elem=>match a with
   | .agg cs=>ti T elem fun e=>M.guard (Nat.blt j len) <| partV T elem cs.toList (j * e.size)
   | _=>M.fail
 | _=>M.fail
def a8Z (fr:List Value) (t:TypeId) (x i:Operand) (ok:Bool):M Value:=ev T fr x fun a=>ev T fr i fun b=>b9o T t a b ok
def a6j (fr:List Value) (t:TypeId) (m k x:Operand):M Value:=ev T fr m fun a=>ev T fr k fun b=>ev T fr x fun v=>
 M.bind (b0v T t a b v) fun _=>M.pure undef
def a9T (fr:List Value) (t:TypeId) (x:Operand):M Value:=ev T fr x fun v=>ti T t fun d=>match d.und with
 | .string=>match v with
   | .string s=>M.bind (new (.siter s 0)) fun b=>M.pure (.pointer (some ⟨b, 0,some 0⟩))
   | _=>M.fail
 | _=>M.fail
def b3F (b:Nat) (s:ByteArray) (pos:Nat):M Value:=match Nat.blt pos (M4 s.data.toList) with
 | true=>a7U (pos + (Utf8.decode s pos).2) fun pos'=>
   M.bind (wr b (.siter s pos')) fun _=>M.pure (.tuple #[.bool true,goInt pos,.int .i32 (Utf8.decode s pos).1])
 | false=>M.pure (.tuple #[.bool false])
def d0m:Option Nat → Bool
 | some g=>Nat.beq g 0
 | none=>false
def b0Q (fr:List Value) (x:Operand) (str:Bool):M Value:=M.guard str <| ev T fr x fun v=>a5e v fun a=>M.guard (Nat.beq a.off 0 && d0m a.spot) <|
 M.bind (rd a.block) fun o=>match o with
 | .siter s pos=>b3F a.block s pos
 | _=>M.fail
def a8v (fr:List Value) (x:Operand) (i:Nat):M Value:=ev T fr x fun a=>match a with
 | .tuple vs=>M.obind (a3s vs.toList i) M.pure
 | _=>M.fail
def a8l (fr:List Value) (b:Builtin) (args:Array Operand) (argTypes:Array TypeId):M Value:=evs T fr args.toList fun vs=>match b with
 | .append=>M.guard (Nat.beq (M4 vs) 2) <| appendV T argTypes vs
 | .len=>M.obind (a3s argTypes.toList 0) fun t=>ti T t fun d=>M.obind (a3s vs 0) fun x=>c2R d.und x
 | .max=>M.guard (a0N plain vs) <| pureV (a3e p (Builtin.max_ argTypes 0 ⟨vs⟩))
 | .min=>M.guard (a0N plain vs) <| pureV (a3e p (Builtin.min_ argTypes 0 ⟨vs⟩))
 | _=>M.fail
def a8c (fr:List Value) (o:Op):M Value:=
 match o with
 | .move x=>M.lift (a2H T fr x)
 | .assign x=>M.lift (a2H T fr x)
 | .pick c a b=>b1p T fr c a b
 | .alloc t=>b9l T t
 | .box _ x=>b3x T fr x
 | .build t ps=>a9G T fr t ps
 | .buildSlice t len ps=>a6A T fr t len ps
 | .load t x=>b1j T fr t x
 | .store t x y=>a9Y T fr t x y
 | .nilCheck x=>a7I T fr x
 | .binOp op t x y _=>b2L p T fr op t x y
 | .unOp op _ x=>b6p p T fr op x
 | .convert s d x=>a8p T fr s d x
 | .makeInterface t x=>a9V T fr t x
 | .makeFunc fn a b=>b0T T fr fn a b
 | .makeMap t r=>b2Y T fr t r
 | .makeSlice t l c=>b0S T fr t l c
 | .slice t x lo hi mx=>a9D T fr t x lo hi mx
 | .fieldAddr t x f=>a7c T fr t x f
 | .field t x f=>b0f T fr t x f
 | .indexAddr t x i=>a7g T fr t x i
 | .index t x i=>a9I T fr t x i
 | .lookup t x i ok=>a8Z T fr t x i ok
 | .mapUpdate t m k x=>a6j T fr t m k x
 | .insert t m k x=>a6j T fr t m k x
 | .range t x=>a9T T fr t x
 | .next x str=>b0Q T fr x str
 | .extract x i=>a8v T fr x i
 | _=>M.fail
def a8T (fr:List Value) (f:Operand) (args:List Operand) (k:Nat → List Value → M Value):M Value:=ev T fr f fun v=>evs T fr args fun vs=>match v with
 | .func fn first captured=>match fn with
   | .func g=>k g (M6 first.toList (M6 vs captured.toList))
   | _=>M.fail
 | _=>M.fail
def b0d (call:Nat → List Value → M Value) (fr:List Value) (c:Call):M Value:=match c.callee with
 | .value f=>a8T T fr f c.args.toList call
 | .builtin b=>a8l p T fr b c.args c.argTypes
 | _=>M.fail
def a9W:Op → Option Call
 | .call c=>some c
 | _=>none
def a3E (call:Nat → List Value → M Value) (fr:List Value) (o:Op):M Value:=match a9W o with
 | some c=>b0d p T call fr c
 | none=>a8c p T fr o
inductive Ex where
 | normal
 | exit (id:Nat)
 | ret
def O7 (b:Bool):Value → Bool
 | .bool b'=>b' == b
 | _=>false
def a5N (ops:List Oper) (j:Nat):Option Tmp:=match a3s ops j with
 | none=>none
 | some o=>o.dst
def a3r (ops:List Oper) (fr:List Value) (o:Oper):Bool:=
 match o.guard with
 | none=>true
 | some jb=>match a5N ops jb.1 with
   | some t=>O7 jb.2 (d9 fr t)
   | none=>false
def a0U (fr:List Value) (o:Oper) (v:Value):List Value:=match o.dst with
 | some t=>a8A fr t v
 | none=>fr
def a5E (fr:List Value) (rs:List ResultVar):M (List Value):=
 List.rec (motive:=fun _=>M (List Value)) (M.pure []) (fun r _ ih=>match r with
  | .tmp t=>M.bind ih fun vs=>M.pure (d9 fr t :: vs)
  | .cell a t=>a5e (d9 fr a) fun ad=>M.bind (a8k T t ad) fun v=>M.bind ih fun vs=>M.pure (v :: vs)) rs
def b2z:List Value → Value
 | []=>.tuple ⟨[]⟩
 | v :: vs=>match vs with
   | []=>v
   | w :: ws=>.tuple ⟨v :: w :: ws⟩
def a6G (call:Nat → List Value → M Value) (ops:List Oper) (os:List Oper):List Value → M (List Value):=
 List.rec (motive:=fun _=>List Value → M (List Value)) M.pure (fun o _ ih fr=>match a3r ops fr o with
  | true=>M.bind (a3E p T call fr o.op) fun v=>a7L v fun v=>ih (a0U fr o v)
  | false=>ih (a0U fr o undef)) os
def M.foot {α:Type} (m:M α):M (α × (List Nat × List Nat)):=fun s=>match m ⟨s.c,s.h, [], []⟩ with
 | none=>none
 | some x=>some ((x.1,(x.2.r,x.2.w)),⟨x.2.c,x.2.h,M6 x.2.r s.r,M6 x.2.w s.w⟩)
def a4y (call:Nat → List Value → M Value) (ops:List Oper) (os:List Oper):List Value → M (List Value × List (List Nat × List Nat)):=
 List.rec (motive:=fun _=>List Value → M (List Value × List (List Nat × List Nat))) (fun fr=>M.pure (fr, [])) (fun o _ ih fr=>match a3r ops fr o with
  | true=>M.bind (M.foot (a3E p T call fr o.op)) fun x=>a7L x.1 fun v=>M.bind (ih (a0U fr o v)) fun y=>M.pure (y.1,x.2 :: y.2)
  | false=>M.bind (ih (a0U fr o undef)) fun y=>M.pure (y.1,([], []) :: y.2)) os
def a5b (i:Nat) (l:List Nat):Bool:=List.rec (motive:=fun _=>Bool) false (fun x _ ih=>match Nat.beq i x with
 | true=>true
 | false=>ih) l
def a3q (l m:List Nat):Bool:=a0N (fun i=>!(a5b i m)) l
def a8w (os:List Operand):List Nat:=List.rec (motive:=fun _=>List Nat) [] (fun o _ ih=>match o with
 | .tmp t=>t :: ih
 | _=>ih) os
def a5d (ops:List Oper) (o:Oper):List Nat:=match o.guard with
 | none=>a8w o.op.operands.toList
 | some jb=>match a5N ops jb.1 with
   | some t=>t :: a8w o.op.operands.toList
   | none=>a8w o.op.operands.toList
def a4J (o:Oper):List Nat:=match o.dst with
 | some t=>[t]
 | none=>[]
def free2 (ops:List Oper) (x y:Oper × (List Nat × List Nat)):Bool:=
 a3q x.2.2 y.2.1 && a3q x.2.2 y.2.2 && a3q y.2.2 x.2.1 && a3q (a4J x.1) (a5d ops y.1) && a3q (a4J x.1) (a4J y.1) && a3q (a4J y.1) (a5d ops x.1)
def a6V (ps:List (List Nat)) (e:Edge):List Nat:=match Region.binds .any e with
 | true=>match a3s ps e.on with
   | some l=>e.on :: l
   | none=>[]
 | false=>[]
def a6k (f:Edge → List Nat) (l:List Edge):List Nat:=List.rec (motive:=fun _=>List Nat) [] (fun e _ ih=>M6 (f e) ih) l
def a7w (ops:List Oper) (pj:List Nat) (y:Oper × (List Nat × List Nat)) (xs:List (Oper × (List Nat × List Nat))):Nat → Bool:=
 List.rec (motive:=fun _=>Nat → Bool) (fun _=>true) (fun x _ ih i=>match a5b i pj || free2 ops x y with
  | true=>ih (i + 1)
  | false=>false) xs
def a7t (n:Nat) (l:List Edge):Bool:=a0N (fun e=>match Region.binds .any e with
 | true=>Nat.blt e.on n
 | false=>true) l
def a1b (ops:List Oper) (ys:List (Oper × (List Nat × List Nat))):List (Oper × (List Nat × List Nat)) → List (List Nat) → Nat → Bool:=
 List.rec (motive:=fun _=>List (Oper × (List Nat × List Nat)) → List (List Nat) → Nat → Bool) (fun _ _ _=>true)
  (fun y _ ih xs ps n=>match a7t n y.1.after.toList && a7w ops (a6k (a6V ps) y.1.after.toList) y xs 0 with
    | true=>ih (M6 xs [y]) (M6 ps [a6k (a6V ps) y.1.after.toList]) (n + 1)
    | false=>false) ys
def a2I {α β:Type} (l:List α):List β → List (α × β):=
 List.rec (motive:=fun _=>List β → List (α × β)) (fun _=>[]) (fun a _ ih m=>match m with
  | []=>[]
  | b :: m=>(a,b) :: ih m) l
def region (call:Nat → List Value → M Value) (ops:List Oper) (draw:Bool) (fr:List Value):M (Ex × List Value):=match draw with
 | false=>M.bind (a6G p T call ops ops fr) fun fr'=>M.pure (.normal,fr')
 | true=>M.bind (a4y p T call ops ops fr) fun y=>M.guard (a1b ops (a2I ops y.2) [] [] 0) <| M.pure (.normal,y.1)
def c0t (call:Nat → List Value → M Value) (ih:Code → List Value → M (Ex × List Value)) (c:Code) (fr:List Value):M (Ex × List Value):=match c with
 | .skip=>M.pure (.normal,fr)
 | .region _ ops draw=>region p T call ops.toList draw fr
 | .seq a b=>M.bind (ih a fr) fun r=>match r.1 with
   | .normal=>ih b r.2
   | .exit id=>M.pure (.exit id,r.2)
   | .ret=>M.pure (.ret,r.2)
 | .cond x a b=>M.obind (a2H T fr x) fun v=>match v with
   | .bool t=>match t with
     | true=>ih a fr
     | false=>ih b fr
   | _=>M.fail
 | .block id b=>M.bind (ih b fr) fun r=>match r.1 with
   | .normal=>M.pure (.normal,r.2)
   | .exit id'=>match Nat.beq id' id with
     | true=>M.pure (.normal,r.2)
     | false=>M.pure (.exit id',r.2)
   | .ret=>M.pure (.ret,r.2)
 | .loop b=>fList fr fun fr=>M.bind (ih b fr) fun r=>match r.1 with
   | .normal=>ih (.loop b) r.2
   | .exit id=>M.pure (.exit id,r.2)
   | .ret=>M.pure (.ret,r.2)
 | .exit id=>M.pure (.exit id,fr)
 | .ret=>M.pure (.ret,fr)
 | _=>M.fail
def a6Z (call:Nat → List Value → M Value) (n:Nat):Code → List Value → M (Ex × List Value):=
 Nat.rec (motive:=fun _=>Code → List Value → M (Ex × List Value)) (fun _ _=>M.fail) (fun _ ih=>c0t p T call ih) n
def a4l (n:Nat):List Value:=Nat.rec (motive:=fun _=>List Value) [] (fun _ ih=>undef :: ih) n
def c7c:Next → Option Value
 | .value v=>some v
 | _=>none
def b3S (f:Nat) (args:List Value):M Value:=M.guard (a0N plain args) <| M.obind (a3e p (callFunc f ⟨args⟩)) fun x=>M.obind (c7c x) fun v=>
 M.guard (a0y 3 v) <| M.pure v
def b0a (fn:Func) (r:Ex × List Value):M Value:=match r.1 with
 | .exit _=>M.fail
 | _=>M.bind (a5E T r.2 fn.results.toList) fun vs=>M.pure (b2z vs)
def enter (call:Nat → List Value → M Value) (n:Nat) (fn:Func) (f:Nat) (args:List Value):M Value:=match fn.body with
 | none=>b3S p f args
 | some c=>M.bind (a6Z p T call n c (M6 args (a4l (fn.ntmps - M4 args)))) fun r=>b0a T fn r
def a7l (ext:Nat → Option (List Value → M Value)) (n:Nat):Nat → List Value → M Value:=
 Nat.rec (motive:=fun _=>Nat → List Value → M Value) (fun _ _=>M.fail) (fun n ih f args=>match ext f with
  | some g=>g args
  | none=>M.obind (T.funcs.get f) fun fn=>enter p T ih n fn f args) n
end
end Go.V
end
section
namespace Go.V
theorem a0m {α:Type} (l:List α):M4 l=l.length:=by
 induction l with
 | nil=>rfl
 | cons v l ih=>show M4 l + 1=_; rw [ih]; rfl
theorem a4H {α:Type} (l:List α):∀ i,a3s l i=l[i]?:=by
 induction l with
 | nil=>intro i; rfl
 | cons v l ih=>intro i; cases i with
   | zero=>rfl
   | succ i=>exact ih i
theorem a6h {α:Type} (l:List α):∀ i,a3l l i=l.drop i:=by
 induction l with
 | nil=>intro i; simp [a3l]
 | cons v l ih=>intro i; cases i with
   | zero=>rfl
   | succ i=>exact ih i
theorem b0z {α:Type} (l:List α):∀ i,a6d l i=l.take i:=by
 induction l with
 | nil=>intro i; simp [a6d]
 | cons v l ih=>intro i; cases i with
   | zero=>rfl
   | succ i=>show v :: a6d l i=_; rw [ih]; rfl
theorem M7 {α:Type} (l m:List α):M6 l m=l ++ m:=by
 induction l with
 | nil=>rfl
 | cons v l ih=>show v :: M6 l m=_; rw [ih]; rfl
theorem a3X {α β:Type} (f:α → β) (l:List α):a2m f l=l.map f:=by
 induction l with
 | nil=>rfl
 | cons v l ih=>show f v :: a2m f l=_; rw [ih]; rfl
theorem q9 {α:Type} (f:α → Bool) (v:α) (l:List α):a0N f (v :: l)=(f v && a0N f l):=by
 show Bool.rec (motive:=fun _=>Bool) false (a0N f l) (f v)=_
 cases f v <;> rfl
theorem b1O {α:Type} (f:α → Bool) (l:List α):a0N f l=l.all f:=by
 induction l with
 | nil=>rfl
 | cons v l ih=>rw [q9,ih]; rfl
theorem a1a {α:Type} (f:α → Bool) (l:List α):a0N f l=true ↔ ∀ x ∈ l,f x=true:=by
 rw [b1O,List.all_eq_true]
theorem Trie.get_node_zero {α:Type} (v:Option α) (l r:Trie α):(Trie.node v l r).get 0=v:=rfl
theorem Trie.get_node_succ {α:Type} (v:Option α) (l r:Trie α) (k:Nat) :
 (Trie.node v l r).get (k + 1)=if k % 2=0 then l.get (k / 2) else r.get (k / 2):=by
 show (match k % 2 with | 0=>l.get (k / 2) | _ + 1=>r.get (k / 2))=_
 split <;> rename_i h <;> simp [h]
theorem Trie.get_leaf {α:Type} (n:Nat):(Trie.leaf:Trie α).get n=none:=rfl
def Trie.put {α:Type} (o:Option α) (f:Nat) (t:Trie α) (n:Nat):Trie α:=Trie.putK o f t n id
theorem Trie.putK_eq' {α:Type} (o:Option α) (f:Nat):∀ (β:Type) (t:Trie α) (n:Nat) (q:Trie α → β),Trie.putK o f t n q=q (Trie.put o f t n):=by
 induction f with
 | zero=>intro β t n q; rfl
 | succ f ih=>
   intro β t n q
   cases n with
   | zero=>cases t <;> rfl
   | succ k=>
     have hk:k % 2=0 ∨ k % 2=1:=by omega
     cases t with
     | leaf=>
       show (match k % 2 with | 0=>Trie.putK o f .leaf (k / 2) fun t=>q (.node none t .leaf) | _ + 1=>Trie.putK o f .leaf (k / 2) fun t=>q (.node none .leaf t))=q (match k % 2 with | 0=>Trie.putK o f .leaf (k / 2) fun t=>id (Trie.node none t .leaf) | _ + 1=>Trie.putK o f .leaf (k / 2) fun t=>id (Trie.node none .leaf t))
       rcases hk with h | h <;> simp only [h] <;> rw [ih,ih] <;> rfl
     | node v l r=>
       show (match k % 2 with | 0=>Trie.putK o f l (k / 2) fun t=>q (.node v t r) | _ + 1=>Trie.putK o f r (k / 2) fun t=>q (.node v l t))=q (match k % 2 with | 0=>Trie.putK o f l (k / 2) fun t=>id (Trie.node v t r) | _ + 1=>Trie.putK o f r (k / 2) fun t=>id (Trie.node v l t))
       rcases hk with h | h <;> simp only [h] <;> rw [ih,ih] <;> rfl
theorem Trie.putK_eq {α β:Type} (o:Option α) (f:Nat) (t:Trie α) (n:Nat) (q:Trie α → β):Trie.putK o f t n q=q (Trie.put o f t n):=Trie.putK_eq' o f β t n q
theorem Trie.get_put {α:Type} (o:Option α):∀ (f:Nat) (t:Trie α) (n:Nat),n < f → ∀ m,(Trie.put o f t n).get m=if m=n then o else t.get m:=by
 intro f
 induction f with
 | zero=>intro t n h; omega
 | succ f ih=>
   intro t n h m
   cases n with
   | zero=>
     cases t with
     | leaf=>show (Trie.node o .leaf .leaf).get m=_; cases m with
       | zero=>simp [Trie.get_node_zero]
       | succ m=>simp [Trie.get_node_succ,Trie.get_leaf]
     | node v l r=>show (Trie.node o l r).get m=_; cases m with
       | zero=>simp [Trie.get_node_zero]
       | succ m=>simp [Trie.get_node_succ]
   | succ k=>
     have hk:k % 2=0 ∨ k % 2=1:=by omega
     have hf:k / 2 < f:=by omega
     cases t with
     | leaf=>
       have e:Trie.put o (f + 1) (.leaf:Trie α) (k + 1)=match k % 2 with | 0=>Trie.node none (Trie.put o f .leaf (k / 2)) .leaf | _ + 1=>Trie.node none .leaf (Trie.put o f .leaf (k / 2)):=by
        show (match k % 2 with | 0=>Trie.putK o f .leaf (k / 2) fun t=>id (Trie.node none t .leaf) | _ + 1=>Trie.putK o f .leaf (k / 2) fun t=>id (Trie.node none .leaf t))=_
        rcases hk with h | h <;> simp only [h] <;> rw [Trie.putK_eq] <;> rfl
       rw [e]
       cases m with
       | zero=>rcases hk with h | h <;> simp [h,Trie.get_node_zero,Trie.get_leaf]
       | succ m=>
         rcases hk with h | h <;> simp only [h,Trie.get_node_succ,ih _ _ hf,Trie.get_leaf] <;> (repeat' split) <;> first | rfl | omega
     | node v l r=>
       have e:Trie.put o (f + 1) (.node v l r) (k + 1)=match k % 2 with | 0=>Trie.node v (Trie.put o f l (k / 2)) r | _ + 1=>Trie.node v l (Trie.put o f r (k / 2)):=by
        show (match k % 2 with | 0=>Trie.putK o f l (k / 2) fun t=>id (Trie.node v t r) | _ + 1=>Trie.putK o f r (k / 2) fun t=>id (Trie.node v l t))=_
        rcases hk with h | h <;> simp only [h] <;> rw [Trie.putK_eq] <;> rfl
       rw [e]
       cases m with
       | zero=>rcases hk with h | h <;> simp [h,Trie.get_node_zero]
       | succ m=>
         rcases hk with h | h <;> simp only [h,Trie.get_node_succ,ih _ _ hf] <;> (repeat' split) <;> first | rfl | omega
theorem a5B {α:Type} (n:Nat) (k:Nat → α):a7U n k=k n:=by cases n <;> rfl
theorem c6l {α:Type} (n:Int) (k:Int → α):c3Q n k=k n:=by cases n <;> simp [c3Q,a5B]
theorem a3m {β α:Type} (l:List β):∀ (k:List β → α),fList l k=k l:=by
 induction l with
 | nil=>intro k; rfl
 | cons x l ih=>intro k; exact ih fun l=>k (x :: l)
theorem c3C {α:Type} (g:Option Nat) (k:Option Nat → α):c0S g k=k g:=by cases g <;> simp [c0S,a5B]
theorem c2Z {α:Type} (a:Option Addr) (k:Option Addr → α):b5x a k=k a:=by
 cases a with
 | none=>rfl
 | some a=>simp [b5x,a5B,c3C]
theorem a7T {α:Type} (v:Value) (k:Value → α):a7L v k=k v:=by
 cases v with
 | bool b=>cases b <;> rfl
 | _=>simp [a7L,c6l,a5B,c2Z,a3m]
theorem M8 {α β:Type} {m:M α} {f:α → M β} {s s2:S} {b:β} (h:M.bind m f s=some (b,s2)):∃ a s1,m s=some (a,s1) ∧ f a s1=some (b,s2):=by
 unfold M.bind at h
 cases e:m s with
 | none=>rw [e] at h; cases h
 | some x=>rw [e] at h; exact ⟨x.1,x.2,rfl,h⟩
theorem U4 {α β:Type} {o:Option α} {f:α → M β} {s s2:S} {b:β} (h:M.obind o f s=some (b,s2)):∃ a,o=some a ∧ f a s=some (b,s2):=by
 cases o with
 | none=>cases h
 | some a=>exact ⟨a,rfl,h⟩
theorem R4 {α:Type} {c:Bool} {m:M α} {s s2:S} {b:α} (h:M.guard c m s=some (b,s2)):c=true ∧ m s=some (b,s2):=by
 cases c with
 | false=>cases h
 | true=>exact ⟨rfl,h⟩
theorem a6g {α:Type} {o:Option α} {s s2:S} {b:α} (h:M.lift o s=some (b,s2)):o=some b ∧ s2=s:=by
 cases o with
 | none=>cases h
 | some a=>cases h; exact ⟨rfl,rfl⟩
theorem J3 {α:Type} {a b:α} {s s2:S} (h:M.pure a s=some (b,s2)):b=a ∧ s2=s:=by cases h; exact ⟨rfl,rfl⟩
theorem b1e {i:Nat} {o:VObj} {s s2:S} (h:rd i s=some (o,s2)):i < s.c ∧ s.h.get i=some o ∧ s2.c=s.c ∧ s2.h=s.h:=by
 unfold rd at h
 split at h
 · rename_i hb
   split at h
   · rename_i o' ho; cases h; exact ⟨by simpa [Nat.blt_eq] using hb,ho,rfl,rfl⟩
   · cases h
 · cases h
def Fr {α:Type} (m:M α):Prop:=∀ s a s',m s=some (a,s') → ∃ dr dw,s'.r=dr ++ s.r ∧ s'.w=dw ++ s.w ∧ s.c ≤ s'.c ∧
 (∀ i,i ∈ dr → i < s'.c) ∧ (∀ i,i ∈ dw → i < s'.c) ∧ (∀ i,s.c ≤ i → i < s'.c → i ∈ dw) ∧ (∀ i,i ∉ dw → s'.h.get i=s.h.get i) ∧
 ∀ h2 r2 w2,(∀ i,(i ∈ dr ∨ i ∈ dw) → i < s.c → h2.get i=s.h.get i) →
   ∃ h2',m ⟨s.c,h2,r2,w2⟩=some (a,⟨s'.c,h2',dr ++ r2,dw ++ w2⟩) ∧ (∀ i,i ∈ dw → h2'.get i=s'.h.get i) ∧ (∀ i,i ∉ dw → h2'.get i=h2.get i)
theorem Fr.pure {α:Type} (a:α):Fr (M.pure a):=by
 intro s a' s' h
 cases h
 exact ⟨[], [],rfl,rfl,Nat.le_refl _,by simp,by simp,fun i h1 h2=>by omega,fun _ _=>rfl,fun h2 r2 w2 _=>⟨h2,rfl,by simp,fun _ _=>rfl⟩⟩
theorem Fr.fail {α:Type}:Fr (M.fail:M α):=by
 intro s a s' h; cases h
theorem Fr.lift {α:Type} (o:Option α):Fr (M.lift o):=by
 cases o with
 | none=>exact Fr.fail
 | some a=>exact Fr.pure a
theorem Fr.obind {α β:Type} (o:Option α) {f:α → M β} (h:∀ a,Fr (f a)):Fr (M.obind o f):=by
 cases o with
 | none=>exact Fr.fail
 | some a=>exact h a
theorem Fr.guard {α:Type} (b:Bool) {m:M α} (h:Fr m):Fr (M.guard b m):=by
 cases b with
 | true=>exact h
 | false=>exact Fr.fail
theorem Fr.bind {α β:Type} {m:M α} {f:α → M β} (hm:Fr m) (hf:∀ a,Fr (f a)):Fr (M.bind m f):=by
 intro s b s2 h
 cases e:m s with
 | none=>simp [M.bind,e] at h
 | some x=>
   obtain ⟨a,s1⟩:=x
   have h':f a s1=some (b,s2):=by simpa [M.bind,e] using h
   obtain ⟨dr1,dw1,e1,e2,e3,e4,e5,e6,e7,e8⟩:=hm s a s1 e
   obtain ⟨dr2,dw2,g1,g2,g3,g4,g5,g6,g7,g8⟩:=hf a s1 b s2 h'
   refine ⟨dr2 ++ dr1,dw2 ++ dw1,by rw [g1,e1,List.append_assoc],by rw [g2,e2,List.append_assoc],by omega, ?_, ?_, ?_, ?_, ?_⟩
   · intro i hi; rcases List.mem_append.1 hi with hi | hi
     · exact g4 i hi
     · have:=e4 i hi; omega
   · intro i hi; rcases List.mem_append.1 hi with hi | hi
     · exact g5 i hi
     · have:=e5 i hi; omega
   · intro i h1 h2
     by_cases hc:i < s1.c
     · exact List.mem_append.2 (.inr (e6 i h1 hc))
     · exact List.mem_append.2 (.inl (g6 i (by omega) h2))
   · intro i hi
     rw [g7 i (fun q=>hi (List.mem_append.2 (.inl q))),e7 i (fun q=>hi (List.mem_append.2 (.inr q)))]
   · intro h2 r2 w2 hag
     obtain ⟨h2',q1,q2,q3⟩:=e8 h2 r2 w2 (fun i hi hc=>hag i (by rcases hi with hi | hi <;> simp [hi]) hc)
     obtain ⟨h3,p1,p2,p3⟩:=g8 h2' (dr1 ++ r2) (dw1 ++ w2) (by
      intro i hi hc
      by_cases hw:i ∈ dw1
      · exact q2 i hw
      · rw [q3 i hw,e7 i hw]
        refine hag i (by rcases hi with hi | hi <;> simp [hi]) ?_
        exact Nat.lt_of_not_le fun hle=>hw (e6 i hle hc))
     refine ⟨h3, ?_, ?_, ?_⟩
     · simp only [M.bind,q1,p1,List.append_assoc]
     · intro i hi
       by_cases hw:i ∈ dw2
       · exact p2 i hw
       · rw [p3 i hw,g7 i hw]
         rcases List.mem_append.1 hi with hi | hi
         · exact absurd hi hw
         · exact q2 i hi
     · intro i hi
       rw [p3 i (fun q=>hi (List.mem_append.2 (.inl q))),q3 i (fun q=>hi (List.mem_append.2 (.inr q)))]
theorem Fr.rd (i:Nat):Fr (rd i):=by
 intro s a s' h
 unfold V.rd at h
 split at h
 · rename_i hb
   have hlt:i < s.c:=by simpa [Nat.blt_eq] using hb
   split at h
   · rename_i o ho
     cases h
     refine ⟨[i], [],rfl,rfl,Nat.le_refl _,by simpa using hlt,by simp,fun j h1 h2=>by simp at h2; omega,fun _ _=>rfl, ?_⟩
     intro h2 r2 w2 hag
     refine ⟨h2, ?_,by simp,fun _ _=>rfl⟩
     have:=hag i (by simp) hlt
     simp only [V.rd,hb,this,ho]
     rfl
   · cases h
 · cases h
theorem Fr.wr (i:Nat) (o:VObj):Fr (wr i o):=by
 intro s a s' h
 unfold V.wr at h
 split at h
 · rename_i hb
   have hlt:i < s.c:=by simpa [Nat.blt_eq] using hb
   split at h
   · rename_i o' ho
     rw [Trie.putK_eq] at h
     cases h
     refine ⟨[], [i],rfl,rfl,Nat.le_refl _,by simp,by simpa using hlt,fun j h1 h2=>by simp at h2; omega, ?_, ?_⟩
     · intro j hj
       dsimp only
       rw [Trie.get_put _ _ _ _ (Nat.lt_succ_self _),if_neg (by simpa using hj)]
     · intro h2 r2 w2 hag
       have h1:=hag i (by simp) hlt
       refine ⟨Trie.put (some o) (i + 1) h2 i, ?_, ?_, ?_⟩
       · simp only [V.wr,hb,h1,ho]
         rw [Trie.putK_eq]; rfl
       · intro j hj
         obtain rfl:j=i:=by simpa using hj
         dsimp only
         rw [Trie.get_put _ _ _ _ (Nat.lt_succ_self _),Trie.get_put _ _ _ _ (Nat.lt_succ_self _)]; simp
       · intro j hj
         rw [Trie.get_put _ _ _ _ (Nat.lt_succ_self _),if_neg (by simpa using hj)]
   · cases h
 · cases h
theorem b1w (o:VObj) (s:S):new o s=some (s.c,⟨s.c + 1,Trie.put (some o) (s.c + 1) s.h s.c,s.r,s.c :: s.w⟩):=by
 unfold new; rw [Trie.putK_eq,a5B]
theorem Fr.new (o:VObj):Fr (new o):=by
 intro s a s' h
 rw [b1w] at h
 cases h
 refine ⟨[], [s.c],rfl,rfl,Nat.le_succ _,by simp,by simp, ?_, ?_, ?_⟩
 · intro j h1 h2; simp at h2 ⊢; omega
 · intro j hj
   dsimp only
   rw [Trie.get_put _ _ _ _ (Nat.lt_succ_self _),if_neg (by simpa using hj)]
 · intro h2 r2 w2 _
   refine ⟨Trie.put (some o) (s.c + 1) h2 s.c,b1w _ _, ?_, ?_⟩
   · intro j hj
     obtain rfl:j=s.c:=by simpa using hj
     dsimp only
     rw [Trie.get_put _ _ _ _ (Nat.lt_succ_self _),Trie.get_put _ _ _ _ (Nat.lt_succ_self _)]; simp
   · intro j hj
     rw [Trie.get_put _ _ _ _ (Nat.lt_succ_self _),if_neg (by simpa using hj)]
end Go.V
end
