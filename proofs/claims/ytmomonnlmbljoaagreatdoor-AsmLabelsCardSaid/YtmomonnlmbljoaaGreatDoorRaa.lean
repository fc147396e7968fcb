import GoSem.Step
section
noncomputable section
namespace Go.V
def F4 {α:Type} (l:List α):Nat:=List.rec (motive:=fun _=>Nat) 0 (fun _ _ n=>n+1) l
def M8 {α:Type} (l:List α):Nat→Option α:=
 List.rec (motive:=fun _=>Nat→Option α) (fun _=>none) (fun v _ ih i=>Nat.rec (motive:=fun _=>Option α) (some v) (fun i _=>ih i) i) l
def a4c {α:Type} (l:List α):Nat→List α:=
 List.rec (motive:=fun _=>Nat→List α) (fun _=>[]) (fun v l ih i=>Nat.rec (motive:=fun _=>List α) (v::l) (fun i _=>ih i) i) l
def a2x {α:Type} (l:List α):Nat→List α:=
 List.rec (motive:=fun _=>Nat→List α) (fun _=>[]) (fun v _ ih i=>Nat.rec (motive:=fun _=>List α) [] (fun i _=>v::ih i) i) l
def G7 {α:Type} (l m:List α):List α:=List.rec (motive:=fun _=>List α) m (fun v _ ih=>v::ih) l
def U8 {α β:Type} (f:α→β) (l:List α):List β:=List.rec (motive:=fun _=>List β) [] (fun v _ ih=>f v::ih) l
def L6 {α:Type} (f:α→Bool) (l:List α):Bool:=List.rec (motive:=fun _=>Bool) true (fun v _ ih=>Bool.rec (motive:=fun _=>Bool) false ih (f v)) l
def beqBytes (l:List UInt8):List UInt8→Bool:=
 List.rec (motive:=fun _=>List UInt8→Bool) (fun m=>match m with | []=>true | _::_=>false)
  (fun v _ ih m=>match m with | []=>false | w::m=>Bool.rec (motive:=fun _=>Bool) false (ih m) (Nat.beq v.toNat w.toNat)) l
def a0F (l:List UInt8):List UInt8→Bool:=
 List.rec (motive:=fun _=>List UInt8→Bool) (fun m=>match m with | []=>false | _::_=>true)
  (fun v _ ih m=>match m with | []=>false | w::m=>match Nat.blt v.toNat w.toNat with
    | true=>true
    | false=>match Nat.beq v.toNat w.toNat with
      | true=>ih m
      | false=>false) l
inductive Trie (α:Type) where
 | leaf
 | node (v:Option α) (l r:Trie α)
def Trie.get {α:Type} (t:Trie α):Nat→Option α:=
 Trie.rec (motive:=fun _=>Nat→Option α) (fun _=>none)
  (fun v _ _ gl gr n=>match n with
    | 0=>v
    | k+1=>match k % 2 with
      | 0=>gl (k / 2)
      | _+1=>gr (k / 2)) t
def Trie.putK {α β:Type} (o:Option α) (f:Nat):Trie α→Nat→(Trie α→β)→β:=
 Nat.rec (motive:=fun _=>Trie α→Nat→(Trie α→β)→β) (fun t _ q=>q t)
  (fun _ ih t n q=>match n with
    | 0=>match t with
      | .leaf=>q (.node o .leaf .leaf)
      | .node _ l r=>q (.node o l r)
    | k+1=>match t with
      | .leaf=>match k % 2 with
        | 0=>ih .leaf (k / 2) fun t=>q (.node none t .leaf)
        | _+1=>ih .leaf (k / 2) fun t=>q (.node none .leaf t)
      | .node v l r=>match k % 2 with
        | 0=>ih l (k / 2) fun t=>q (.node v t r)
        | _+1=>ih r (k / 2) fun t=>q (.node v l t)) f
def a1b {α:Type} (n:Nat) (k:Nat→α):α:=match n with
 | 0=>k 0
 | m+1=>k (m+1)
def d3B {α:Type} (n:Int) (k:Int→α):α:=match n with
 | .ofNat m=>a1b m fun m=>k (.ofNat m)
 | .negSucc m=>a1b m fun m=>k (.negSucc m)
def fList {β α:Type} (l:List β):(List β→α)→α:=
 List.rec (motive:=fun _=>(List β→α)→α) (fun k=>k []) (fun x _ ih k=>ih fun l=>k (x::l)) l
def c7S {α:Type} (g:Option Nat) (k:Option Nat→α):α:=match g with
 | none=>k none
 | some g=>a1b g fun g=>k (some g)
def b0X {α:Type} (a:Option Addr) (k:Option Addr→α):α:=match a with
 | none=>k none
 | some a=>a1b a.block fun b=>a1b a.off fun off=>c7S a.spot fun g=>k (some ⟨b,off,g⟩)
def a0R {α:Type} (v:Value) (k:Value→α):α:=match v with
 | .int kd n=>d3B n fun n=>k (.int kd n)
 | .bool b=>match b with
   | true=>k (.bool true)
   | false=>k (.bool false)
 | .string s=>k (.string s)
 | .pointer a=>b0X a fun a=>k (.pointer a)
 | .slice a n c=>b0X a fun a=>a1b n fun n=>a1b c fun c=>k (.slice a n c)
 | .agg cs=>fList cs.toList fun l=>k (.agg ⟨l⟩)
 | .tuple cs=>fList cs.toList fun l=>k (.tuple ⟨l⟩)
 | v=>k v
inductive VObj where
 | cells (cs:List (Value×Nat)) (cur:Nat) (ro:Bool)
 | map (es:List (Value×Value))
 | siter (s:ByteArray) (pos:Nat)
structure S where
 c:Nat
 h:Trie VObj
 r:List Nat
 w:List Nat
def M (α:Type):Type:=S→Option (α×S)
def M.pure {α:Type} (a:α):M α:=fun s=>some (a,s)
def M.bind {α β:Type} (m:M α) (f:α→M β):M β:=fun s=>match m s with
 | none=>none
 | some x=>f x.1 x.2
def M.fail {α:Type}:M α:=fun _=>none
def M.lift {α:Type} (o:Option α):M α:=fun s=>match o with
 | none=>none
 | some a=>some (a,s)
def M.obind {α β:Type} (o:Option α) (f:α→M β):M β:=match o with
 | none=>M.fail
 | some a=>f a
def M.guard {α:Type} (b:Bool) (m:M α):M α:=match b with
 | true=>m
 | false=>M.fail
def rd (i:Nat):M VObj:=fun s=>match Nat.blt i s.c with
 | true=>match s.h.get i with
   | some o=>some (o,⟨s.c,s.h,i::s.r,s.w⟩)
   | none=>none
 | false=>none
def wr (i:Nat) (o:VObj):M Unit:=fun s=>match Nat.blt i s.c with
 | true=>match s.h.get i with
   | some _=>Trie.putK (some o) (i+1) s.h i fun h=>some ((),⟨s.c,h,s.r,i::s.w⟩)
   | none=>none
 | false=>none
def new (o:VObj):M Nat:=fun s=>
 Trie.putK (some o) (s.c+1) s.h s.c fun h=>a1b (s.c+1) fun c=>some (s.c,⟨c,h,s.r,s.c::s.w⟩)
structure TI where
 und:TypeDesc
 size:Nat
 bytes:Nat
 zero:Value
structure Tab where
 types:Trie TI
 funcs:Trie Func
 ng:Nat
def a0H {α:Type} (p:Program) (s:Sem α):Option α:=
 Sem.rec (motive:=fun _=>Option α) (fun a=>some a) (fun _ _ _ _=>none) (fun _ _ _ _ _=>none) (fun _ _ _=>none) (fun _ _ _=>none)
  (fun _ _ _ _=>none) (fun _ _ _=>none) (fun _ _ _=>none) (fun _ _ _ _=>none) (fun _ _ _=>none) (fun _ _ _=>none)
  (fun _ ih=>ih p) (fun _ _ ih=>ih) (fun _=>none) s
def plain:Value→Bool
 | .bool _=>true
 | .int ..=>true
 | .float ..=>true
 | .complex ..=>true
 | .string _=>true
 | .pointer a=>a.isNone
 | .slice a n c=>a.isNone && Nat.beq n 0 && Nat.beq c 0
 | .map r=>r.isNone
 | .nilFunc=>true
 | .nilIface=>true
 | _=>false
def G8 (n:Nat):Value→Bool:=
 Nat.rec (motive:=fun _=>Value→Bool) (fun _=>false) (fun _ ih v=>match v with
  | .agg cs=>L6 ih cs.toList
  | .tuple cs=>L6 ih cs.toList
  | .iface _ v=>ih v
  | v=>plain v) n
def d9 (l:List Value):Nat→Value:=
 List.rec (motive:=fun _=>Nat→Value) (fun _=>undef) (fun v _ ih i=>Nat.rec (motive:=fun _=>Value) v (fun i _=>ih i) i) l
def a1t (l:List Value):Nat→Value→List Value:=
 List.rec (motive:=fun _=>Nat→Value→List Value) (fun _ _=>[])
  (fun v l ih i x=>Nat.rec (motive:=fun _=>List Value) (x::l) (fun i _=>v::ih i x) i) l
def J8 (T:Tab) (fr:List Value):Operand→Option Value
 | .tmp t=>some (d9 fr t)
 | .const v=>match G8 3 v with
   | true=>some v
   | false=>none
 | .global g=>match Nat.blt g T.ng with
   | true=>some (.pointer (some ⟨g, 0,some 0⟩))
   | false=>none
 | .func f=>some (.func (.func f) #[] #[])
def M0 (T:Tab) (fr:List Value) (os:List Operand):Option (List Value):=
 List.rec (motive:=fun _=>Option (List Value)) (some []) (fun o _ ih=>match J8 T fr o with
  | none=>none
  | some v=>match ih with
    | none=>none
    | some vs=>some (v::vs)) os
def ev (T:Tab) (fr:List Value) (x:Operand) (k:Value→M Value):M Value:=M.obind (J8 T fr x) k
def evs (T:Tab) (fr:List Value) (x:List Operand) (k:List Value→M Value):M Value:=M.obind (M0 T fr x) k
def X0 (g:Nat) (cs:List (Value×Nat)):Nat→Option (List Value):=
 List.rec (motive:=fun _=>Nat→Option (List Value)) (fun n=>match n with | 0=>some [] | _+1=>none)
  (fun c _ ih n=>match n with
    | 0=>some []
    | n+1=>match Nat.ble c.2 g with
      | true=>match ih n with
        | some vs=>some (c.1::vs)
        | none=>none
      | false=>none) cs
def Z7 (g:Nat) (vs:List Value):List (Value×Nat)→List (Value×Nat):=
 List.rec (motive:=fun _=>List (Value×Nat)→List (Value×Nat)) (fun cs=>cs)
  (fun v _ ih cs=>match cs with
    | []=>(v,g)::ih []
    | _::cs=>(v,g)::ih cs) vs
def a1N (g:Nat) (vs:List Value) (cs:List (Value×Nat)):Nat→Option (List (Value×Nat)):=
 List.rec (motive:=fun _=>Nat→Option (List (Value×Nat))) (fun n=>match n with | 0=>some (Z7 g vs []) | _+1=>none)
  (fun c cs ih n=>match n with
    | 0=>some (Z7 g vs (c::cs))
    | n+1=>match ih n with
      | some cs'=>some (c::cs')
      | none=>none) cs
def X7:Value→Bool
 | .agg _=>false
 | .tuple _=>false
 | _=>true
def a1d {α:Type} (o:VObj) (k:List (Value×Nat)→Nat→Bool→M α):M α:=match o with
 | .cells cs cur ro=>k cs cur ro
 | _=>M.fail
def loadN (a:Addr) (n:Nat):M (List Value):=
 M.obind a.spot fun g=>M.bind (rd a.block) fun o=>a1d o fun cs _ _=>M.lift (X0 g (a4c cs a.off) n)
def storeN (a:Addr) (vs:List Value):M Unit:=
 M.obind a.spot fun g=>M.bind (rd a.block) fun o=>a1d o fun cs cur ro=>
  M.guard (Nat.beq g cur && !ro && L6 X7 vs && Nat.ble (a.off+F4 vs) (F4 cs)) <|
  M.obind (a1N g vs cs a.off) fun cs'=>fList cs' fun cs'=>wr a.block (.cells cs' cur ro)
def M9 (vs:List Value):M Addr:=
 M.guard (L6 X7 vs) <| fList (U8 (fun v=>(v, 0)) vs) fun cs=>M.bind (new (.cells cs 0 false)) fun b=>M.pure ⟨b, 0,some 0⟩
def fwd (a:Addr) (n:Nat):Addr:=⟨a.block,a.off+n,a.spot⟩
def a0K:Value→Option Nat
 | .int _ n=>match n with
   | .ofNat m=>some m
   | .negSucc _=>none
 | _=>none
def V4 (d:Nat):Option Value→Option Nat
 | none=>some d
 | some v=>a0K v
def K5 {α:Type} (v:Value) (k:Addr→M α):M α:=match v with
 | .pointer a=>M.obind a k
 | _=>M.fail
def a3m:TypeDesc→Bool
 | .struct _=>true
 | .array _ _=>true
 | _=>false
def V8:IntKind→Nat
 | .i8=>128
 | .i16=>32768
 | .i32=>2147483648
 | .i64=>9223372036854775808
 | .u8=>256
 | .u16=>65536
 | .u32=>4294967296
 | .u64=>18446744073709551616
def U6 (k:IntKind) (n:Int):Int:=match n with
 | .ofNat m=>match Nat.blt m (V8 k) with
   | true=>.ofNat m
   | false=>k.wrap (.ofNat m)
 | .negSucc m=>match k.signed && Nat.blt m (V8 k) with
   | true=>.negSucc m
   | false=>k.wrap (.negSucc m)
section
variable (p:Program) (T:Tab)
def ti {α:Type} (t:TypeId) (k:TI→M α):M α:=M.obind (T.types.get t) k
def a1h (t:TypeId) (a:Addr):M Value:=ti T t fun i=>match a3m i.und with
 | true=>M.guard (!(Nat.beq i.size 0)) <| M.bind (loadN a i.size) fun vs=>M.pure (.agg ⟨vs⟩)
 | false=>M.bind (loadN a 1) fun vs=>M.pure (d9 vs 0)
def b2R (t:TypeId) (a:Addr) (v:Value):M Unit:=ti T t fun i=>
 M.guard (!(Nat.beq i.size 0) && Nat.beq (F4 v.cells.toList) i.size) <| storeN a v.cells.toList
def a2b:Nat:=4294967296
def elemAt (a:Addr) (i len elem:Nat):M Value:=ti T elem fun e=>
 M.guard (Nat.blt i len && !(Nat.beq e.size 0)) <| M.pure (.pointer (some (fwd a (i * e.size))))
def a5y (t:TypeId) (x ix:Value):M Value:=ti T t fun d=>M.obind (a0K ix) fun i=>match d.und with
 | .array len elem=>K5 x fun a=>elemAt T a i len elem
 | .slice elem=>match x with
   | .slice a len es=>M.obind a fun a=>ti T elem fun e=>M.guard (Nat.beq es e.size) <| elemAt T a i len elem
   | _=>M.fail
 | _=>M.fail
def a5W (t:TypeId) (x:Value) (f:Nat):M Value:=ti T t fun d=>match d.und with
 | .struct fields=>K5 x fun a=>M.obind (M8 fields.toList f) fun fd=>ti T fd.type fun n=>
   M.guard (!(Nat.beq n.size 0)) <| M.pure (.pointer (some (fwd a fd.offset)))
 | _=>M.fail
def cut (a:Addr) (len elem:Nat) (lo hi:Option Value):M Value:=ti T elem fun e=>
 M.obind (V4 0 lo) fun l=>M.obind (V4 len hi) fun h=>
 M.guard (Nat.ble l h && Nat.ble h len && !(Nat.beq e.size 0)) <| M.pure (.slice (some (fwd a (l * e.size))) (h - l) e.size)
def b3L (s:ByteArray) (lo hi:Option Value):M Value:=
 M.obind (V4 0 lo) fun l=>M.obind (V4 (F4 s.data.toList) hi) fun h=>
 M.guard (Nat.ble l h && Nat.ble h (F4 s.data.toList)) <| fList (a2x (a4c s.data.toList l) (h - l)) fun b=>M.pure (.string ⟨⟨b⟩⟩)
def cutNil (lo hi:Option Value):M Value:=
 M.obind (V4 0 lo) fun l=>M.obind (V4 0 hi) fun h=>M.guard (Nat.beq l 0 && Nat.beq h 0) <| M.pure (.slice none 0 0)
def c8q (t:TypeId) (x:Value) (lo hi mx:Option Value):M Value:=ti T t fun d=>M.guard mx.isNone <| match d.und with
 | .string=>match x with
   | .string s=>b3L s lo hi
   | _=>M.fail
 | .slice elem=>match x with
   | .slice a len es=>ti T elem fun e=>match a with
     | some a=>M.guard (Nat.beq es e.size) <| cut T a len elem lo hi
     | none=>M.guard (Nat.beq len 0) <| cutNil lo hi
   | _=>M.fail
 | .array len elem=>K5 x fun a=>ti T elem fun e=>M.bind (loadN a (len * e.size)) fun _=>cut T a len elem lo hi
 | _=>M.fail
def Y4 (zs:List Value) (n:Nat):List Value:=Nat.rec (motive:=fun _=>List Value) [] (fun _ ih=>G7 zs ih) n
def a5O (t:TypeId) (len cap:Value):M Value:=ti T t fun d=>match d.und with
 | .slice elem=>ti T elem fun e=>M.obind (a0K len) fun l=>M.obind (a0K cap) fun c=>
   M.guard (Nat.ble l c && Nat.blt c a2b && Nat.blt e.bytes 4096 && Nat.beq (F4 e.zero.cells.toList) e.size && !(Nat.beq e.size 0) && G8 8 e.zero) <|
   M.bind (M9 (Y4 e.zero.cells.toList l)) fun a=>M.pure (.slice (some a) l e.size)
 | _=>M.fail
def pureV (o:Option Value):M Value:=M.obind o fun v=>M.guard (G8 3 v) <| M.pure v
def a0x (b:UInt8):Value:=.int .u8 b.toNat
def a6q:Value→Option UInt8
 | .int .u8 n=>some (UInt8.ofNat n.toNat)
 | _=>none
def a4a (vs:List Value):Option (List UInt8):=
 List.rec (motive:=fun _=>Option (List UInt8)) (some []) (fun v _ ih=>match a6q v with
  | none=>none
  | some b=>match ih with
    | some bs=>some (b::bs)
    | none=>none) vs
def a3J (size:Nat) (x:Value):M (List Value):=match x with
 | .slice a len es=>match a with
   | none=>M.guard (Nat.beq len 0) <| M.pure []
   | some a=>match len with
     | 0=>M.pure []
     | len+1=>M.guard (Nat.beq es size) <| loadN a ((len+1) * size)
 | .string s=>M.guard (Nat.beq size 1) <| M.pure (U8 a0x s.data.toList)
 | _=>M.fail
def b2c:Value→Bool
 | .slice ..=>true
 | _=>false
def a5V:TypeDesc→Bool
 | .int _=>true
 | _=>false
def appendAt (e:TI) (a:Addr) (len:Nat) (vs:List Value) (m:Nat):M Value:=
 M.obind a.spot fun g=>M.bind (rd a.block) fun o=>a1d o fun cs cur ro=>M.guard (!ro) <|
 M.guard (Nat.ble (a.off+len * e.size) (F4 cs)) <| M.obind (X0 g (a4c cs a.off) (len * e.size)) fun _=>
 fList (G7 (a2x cs (a.off+len * e.size)) (U8 (fun v=>(v,cur+1)) vs)) fun cs'=>M.bind (wr a.block (.cells cs' (cur+1) ro)) fun _=>
 M.pure (.slice (some ⟨a.block,a.off,some (cur+1)⟩) (len+m) e.size)
def a1O (e:TI) (s:Value) (vs:List Value):M Value:=match vs with
 | []=>M.guard (b2c s) <| M.pure s
 | v::vs=>match s with
   | .slice base len es=>a1b ((F4 vs+1) / e.size) fun m=>
     M.guard (Nat.beq (m * e.size) (F4 vs+1) && L6 X7 (v::vs) && Nat.blt ((len+m) * 4) a2b && Nat.blt e.bytes 4096) <|
     match base with
     | none=>M.guard (Nat.beq len 0) <| M.bind (M9 (v::vs)) fun a=>M.pure (.slice (some a) m e.size)
     | some a=>M.guard (Nat.beq es e.size) <| appendAt e a len (v::vs) m
   | _=>M.fail
def appendV (argTypes:Array TypeId) (args:List Value):M Value:=M.obind (M8 argTypes.toList 0) fun st=>M.obind (M8 argTypes.toList 1) fun xt=>
 ti T st fun d=>ti T xt fun dx=>match d.und with
 | .slice elem=>M.obind (M8 args 0) fun s=>M.obind (M8 args 1) fun x=>
   ti T elem fun e=>M.guard (!a5V dx.und && !(Nat.beq e.size 0)) <| M.bind (a3J e.size x) fun vs=>fList vs fun vs=>a1O e s vs
 | _=>M.fail
def P6:Value→Value→Option Bool
 | .int a x,.int b y=>match decide (a=b) with
   | true=>some (decide (x=y))
   | false=>none
 | .string x,.string y=>some (beqBytes x.data.toList y.data.toList)
 | .bool x,.bool y=>some (x == y)
 | _,_=>none
def b1j (k:Value) (es:List (Value×Value)):Option (Option Value):=
 List.rec (motive:=fun _=>Option (Option Value)) (some none) (fun e _ ih=>match P6 k e.1 with
  | none=>none
  | some true=>some (some e.2)
  | some false=>ih) es
def a2T (k v:Value) (es:List (Value×Value)):List (Value×Value):=
 List.rec (motive:=fun _=>List (Value×Value)) [(k,v)] (fun e es ih=>match P6 k e.1 with
  | some true=>(k,v)::es
  | _=>e::ih) es
def a0Y:TypeDesc→Value→Bool
 | .int k,.int k' _=>decide (k=k')
 | .string,.string _=>true
 | .bool,.bool _=>true
 | _,_=>false
def c3Q {α:Type} (o:VObj) (k:List (Value×Value)→M α):M α:=match o with
 | .map es=>k es
 | _=>M.fail
def c7r (r:Nat):M (List (Value×Value)):=M.bind (rd r) fun o=>c3Q o M.pure
def a3Z (x:Value):M (List (Value×Value)):=match x with
 | .map r=>match r with
   | none=>M.pure []
   | some r=>c7r r
 | _=>M.fail
def a2u (commaOk:Bool) (v:Value) (b:Bool):Value:=match commaOk with
 | true=>.tuple #[v,.bool b]
 | false=>v
def a3S (t:TypeId) (x ix:Value) (commaOk:Bool):M Value:=ti T t fun d=>match d.und with
 | .map key elem=>ti T key fun kd=>ti T elem fun ed=>M.guard (a0Y kd.und ix) <| M.bind (a3Z x) fun es=>M.obind (b1j ix es) fun o=>match o with
   | some v=>M.pure (a2u commaOk v true)
   | none=>M.guard (G8 8 ed.zero) <| M.pure (a2u commaOk ed.zero false)
 | _=>M.fail
def a1A (t:TypeId) (m k v:Value):M Unit:=ti T t fun d=>match d.und with
 | .map key _=>match m with
   | .map r=>M.obind r fun r=>ti T key fun kd=>M.guard (a0Y kd.und k) <| M.bind (c7r r) fun es=>M.obind (b1j k es) fun _=>
     fList (a2T k v es) fun es'=>wr r (.map es')
   | _=>M.fail
 | _=>M.fail
def d4T (d:TypeDesc) (x:Value):M Value:=match d with
 | .array n _=>M.pure (goInt n)
 | .string=>match x with
   | .string s=>M.pure (goInt (F4 s.data.toList))
   | _=>M.fail
 | .slice _=>match x with
   | .slice _ n _=>M.pure (goInt n)
   | _=>M.fail
 | .map _ _=>M.bind (a3Z x) fun es=>M.pure (goInt (F4 es))
 | _=>M.fail
def b9Y:TypeDesc→Bool
 | .int .u8=>true
 | _=>false
def c0g (e:TypeId) (b:ByteArray):M Value:=ti T e fun i=>M.guard (b9Y i.und && Nat.blt (F4 b.data.toList) a2b) <|
 M.bind (M9 (U8 a0x b.data.toList)) fun a=>M.pure (.slice (some a) (F4 b.data.toList) 1)
def convBytes (e:TypeId) (x:Value):M Value:=ti T e fun i=>M.guard (b9Y i.und) <|
 M.bind (a3J 1 x) fun vs=>M.obind (a4a vs) fun bs=>M.pure (.string ⟨⟨bs⟩⟩)
def b2I (src dst:TypeId) (x:Value):M Value:=ti T src fun s=>ti T dst fun d=>match d.und with
 | .int k=>match x with
   | .int _ n=>M.pure (.int k (U6 k n))
   | _=>M.fail
 | .slice e=>match x with
   | .string b=>c0g T e b
   | _=>M.fail
 | .string=>match x with
   | .string b=>M.pure (.string b)
   | .int _ n=>M.pure (.string (Utf8.encode n))
   | _=>match s.und with
     | .slice e=>M.guard (b2c x) <| convBytes T e x
     | _=>M.fail
 | _=>M.fail
def a3I (fr:List Value) (c a b:Operand):M Value:=ev T fr c fun vc=>ev T fr a fun va=>ev T fr b fun vb=>match vc with
 | .bool t=>match t with
   | true=>M.pure va
   | false=>M.pure vb
 | _=>M.fail
def a4u {α:Type}:List α→Bool
 | []=>true
 | _::_=>false
def b9T (t:TypeId):M Value:=ti T t fun i=>M.guard (G8 8 i.zero && !(a4u i.zero.cells.toList)) <|
 M.bind (M9 i.zero.cells.toList) fun a=>M.pure (.pointer (some a))
def a5B (fr:List Value) (x:Operand):M Value:=ev T fr x fun v=>M.guard (!(a4u v.cells.toList)) <|
 M.bind (M9 v.cells.toList) fun a=>M.pure (.pointer (some a))
def a2C (vs:List Value):List Value→List Value:=
 List.rec (motive:=fun _=>List Value→List Value) (fun cs=>cs) (fun v _ ih cs=>match cs with
  | []=>[]
  | _::cs=>v::ih cs) vs
def V9 (vs:List Value) (cs:List Value):Nat→List Value:=
 List.rec (motive:=fun _=>Nat→List Value) (fun _=>[]) (fun c cs ih n=>match n with
  | 0=>a2C vs (c::cs)
  | n+1=>c::ih n) cs
def a2A (place:Nat→Option (Nat×Nat)) (qs:List (Nat×Operand)):List Value→List Value→Option (List Value):=
 List.rec (motive:=fun _=>List Value→List Value→Option (List Value)) (fun _ cs=>some cs) (fun q _ ih vs cs=>match vs with
  | []=>none
  | v::vs=>match place q.1 with
    | none=>none
    | some os=>match Nat.beq (F4 v.cells.toList) os.2 && Nat.ble (os.1+os.2) (F4 cs) with
      | true=>ih vs (V9 v.cells.toList cs os.1)
      | false=>none) qs
def a0q (fields:List Field) (j:Nat):Option (Nat×Nat):=match M8 fields j with
 | none=>none
 | some f=>match T.types.get f.type with
   | none=>none
   | some i=>some (f.offset,i.size)
def V5 (size j:Nat):Option (Nat×Nat):=some (j * size,size)
def c7H (f:Field):Bool:=(T.types.get f.type).isSome
def a2l (fr:List Value) (t:TypeId) (ps:Array (Nat×Operand)):M Value:=evs T fr (U8 (·.2) ps.toList) fun vs=>ti T t fun i=>
 M.guard (G8 8 i.zero) <| match i.und with
 | .struct fields=>M.guard (L6 (c7H T) fields.toList) <|
   M.obind (a2A (a0q T fields.toList) ps.toList vs i.zero.cells.toList) fun cs=>M.pure (.agg ⟨cs⟩)
 | .array _ elem=>ti T elem fun e=>M.obind (a2A (V5 e.size) ps.toList vs i.zero.cells.toList) fun cs=>M.pure (.agg ⟨cs⟩)
 | _=>M.fail
def a0c (fr:List Value) (t:TypeId) (len:Nat) (ps:Array (Nat×Operand)):M Value:=evs T fr (U8 (·.2) ps.toList) fun vs=>ti T t fun d=>
 match d.und with
 | .slice elem=>ti T elem fun e=>
   M.guard (Nat.beq (F4 e.zero.cells.toList) e.size && !(Nat.beq e.size 0) && G8 8 e.zero && Nat.ble (len * e.size) 16777216) <|
   M.obind (a2A (V5 e.size) ps.toList vs (Y4 e.zero.cells.toList len)) fun cs=>
   M.bind (M9 cs) fun a=>M.pure (.slice (some a) len e.size)
 | _=>M.fail
def a2P (fr:List Value) (t:TypeId) (x:Operand):M Value:=ev T fr x fun v=>K5 v fun a=>a1h T t a
def a2r (fr:List Value) (t:TypeId) (x y:Operand):M Value:=ev T fr x fun va=>ev T fr y fun v=>K5 va fun a=>
 M.bind (b2R T t a v) fun _=>M.pure undef
def b1P:Fn→Bool
 | .func _=>true
 | _=>false
def a0O (fr:List Value) (x:Operand):M Value:=ev T fr x fun v=>match v with
 | .pointer a=>M.guard a.isSome <| M.pure (.pointer a)
 | .func fn a b=>M.guard (b1P fn) <| M.pure (.func fn a b)
 | _=>M.fail
def a3V (op:BinOp) (k:IntKind) (a b:Int):Option Value:=match op with
 | .add=>some (.int k (U6 k (a+b)))
 | .sub=>some (.int k (U6 k (a - b)))
 | .mul=>some (.int k (U6 k (a * b)))
 | .eql=>some (.bool (decide (a=b)))
 | .neq=>some (.bool (!(decide (a=b))))
 | .lss=>some (.bool (decide (a<b)))
 | .leq=>some (.bool (decide (a≤b)))
 | .gtr=>some (.bool (decide (b<a)))
 | .geq=>some (.bool (decide (b≤a)))
 | _=>none
def a0Z:IntKind→IntKind→Bool
 | .i8,.i8=>true
 | .i16,.i16=>true
 | .i32,.i32=>true
 | .i64,.i64=>true
 | .u8,.u8=>true
 | .u16,.u16=>true
 | .u32,.u32=>true
 | .u64,.u64=>true
 | _,_=>false
def b1d (k:IntKind) (m:Nat):Nat:=match Nat.ble m k.bits with
 | true=>m
 | false=>k.bits
def b1b (op:BinOp) (k:IntKind) (n m:Nat):Option Value:=match op with
 | .quo=>match m with
   | 0=>none
   | m+1=>some (.int k (U6 k (.ofNat (Nat.div n (Nat.succ m)))))
 | .rem=>match m with
   | 0=>none
   | m+1=>some (.int k (.ofNat (Nat.mod n (Nat.succ m))))
 | .and=>some (.int k (U6 k (.ofNat (Nat.land (Nat.mod n (Nat.pow 2 k.bits)) (Nat.mod m (Nat.pow 2 k.bits))))))
 | .or=>some (.int k (U6 k (.ofNat (Nat.lor (Nat.mod n (Nat.pow 2 k.bits)) (Nat.mod m (Nat.pow 2 k.bits))))))
 | .xor=>some (.int k (U6 k (.ofNat (Nat.xor (Nat.mod n (Nat.pow 2 k.bits)) (Nat.mod m (Nat.pow 2 k.bits))))))
 | _=>none
def a0C (op:BinOp) (k:IntKind) (n m:Nat):Option Value:=match op with
 | .shl=>some (.int k (U6 k (.ofNat (Nat.mul n (Nat.pow 2 (b1d k m))))))
 | .shr=>some (.int k (.ofNat (Nat.div n (Nat.pow 2 (b1d k m)))))
 | _=>none
def a0M (f:Nat→Nat→Option Value) (a b:Int):Option Value:=match a with
 | .ofNat n=>match b with
   | .ofNat m=>f n m
   | .negSucc _=>none
 | .negSucc _=>none
def a0l (op:BinOp) (k k':IntKind) (a b:Int):Option Value:=match a0M (a0C op k) a b with
 | some v=>some v
 | none=>match a0Z k k' with
   | true=>match a3V op k a b with
     | some v=>some v
     | none=>a0M (b1b op k) a b
   | false=>none
def b0Z (op:BinOp) (x y:List UInt8):Option Value:=match op with
 | .add=>match Nat.blt (F4 x+F4 y) a2b with
   | true=>fList (G7 x y) fun l=>some (.string ⟨⟨l⟩⟩)
   | false=>none
 | .eql=>some (.bool (beqBytes x y))
 | .neq=>some (.bool (!(beqBytes x y)))
 | .lss=>some (.bool (a0F x y))
 | .leq=>some (.bool (a0F x y || beqBytes x y))
 | .gtr=>some (.bool (!(a0F x y || beqBytes x y)))
 | .geq=>some (.bool (!(a0F x y)))
 | _=>none
def e1b:BinOp→Bool
 | .eql=>true
 | .neq=>true
 | _=>false
def V3 (d:TypeDesc) (a:Value):Option Bool:=match d with
 | .pointer _=>match a with
   | .pointer o=>some o.isNone
   | _=>none
 | .slice _=>match a with
   | .slice o _ _=>some o.isNone
   | _=>none
 | .map _ _=>match a with
   | .map o=>some o.isNone
   | _=>none
 | .func _ _ _=>match a with
   | .nilFunc=>some true
   | .func _ _ _=>some false
   | _=>none
 | .interface _=>match a with
   | .nilIface=>some true
   | .iface _ _=>some false
   | _=>none
 | _=>none
def isConstO:Operand→Bool
 | .const _=>true
 | _=>false
def b4h (T:Tab) (op:BinOp) (t:TypeId) (x y:Operand) (a b:Value):Option Bool:=match e1b op && (isConstO x || isConstO y) with
 | true=>match T.types.get t with
   | some d=>match V3 d.und a with
     | some p=>match V3 d.und b with
       | some q=>match p || q with
         | true=>some (p && q)
         | false=>none
       | none=>none
     | none=>none
   | none=>none
 | false=>none
def c1V (op:BinOp) (r:Bool):Bool:=match op with
 | .neq=>!r
 | _=>r
def a2E (op:BinOp) (t:TypeId) (x y:Operand) (a b:Value):M Value:=match b4h T op t x y a b with
 | some r=>M.pure (.bool (c1V op r))
 | none=>M.guard (G8 8 a && G8 8 b) <| pureV (a0H p (do eqGuard op t x y a b; binOp op t a b))
def a5C (fr:List Value) (op:BinOp) (t:TypeId) (x y:Operand):M Value:=ev T fr x fun a=>ev T fr y fun b=>
 match a with
 | .int k n=>match b with
   | .int k' m=>match a0l op k k' n m with
     | some v=>M.pure v
     | none=>a2E p T op t x y a b
   | _=>M.fail
 | .string s=>match b with
   | .string s'=>M.lift (b0Z op s.data.toList s'.data.toList)
   | _=>M.fail
 | _=>a2E p T op t x y a b
def b2g (fr:List Value) (op:UnOp) (x:Operand):M Value:=ev T fr x fun a=>M.guard (plain a) <| pureV (a0H p (Op.unary op a))
def a1o (fr:List Value) (s d:TypeId) (x:Operand):M Value:=ev T fr x fun a=>b2I T s d a
def d4C:TypeDesc→Bool
 | .interface _=>true
 | _=>false
def a2t (fr:List Value) (t:TypeId) (x:Operand):M Value:=ev T fr x fun a=>ti T t fun i=>M.guard (!(d4C i.und)) <| M.pure (.iface t a)
def a3p (fr:List Value) (fn:Fn) (a b:Array Operand):M Value:=evs T fr a.toList fun va=>evs T fr b.toList fun vb=>M.pure (.func fn ⟨va⟩ ⟨vb⟩)
def d2u:TypeDesc→Bool
 | .map _ _=>true
 | _=>false
def d0X:Value→Bool
 | .int ..=>true
 | _=>false
def a5N (fr:List Value) (t:TypeId) (r:Option Operand):M Value:=match r with
 | none=>M.bind (new (.map [])) fun b=>M.pure (.map (some b))
 | some x=>ev T fr x fun v=>ti T t fun d=>M.guard (d2u d.und && d0X v) <| M.bind (new (.map [])) fun b=>M.pure (.map (some b))
def a3d (fr:List Value) (t:TypeId) (l c:Operand):M Value:=ev T fr l fun vl=>ev T fr c fun vc=>a5O T t vl vc
def a2e (fr:List Value) (t:TypeId) (x:Operand) (lo hi mx:Option Operand):M Value:=
 evs T fr lo.toList fun vlo=>evs T fr hi.toList fun vhi=>evs T fr mx.toList fun vmx=>ev T fr x fun a=>c8q T t a (M8 vlo 0) (M8 vhi 0) (M8 vmx 0)
def a0n (fr:List Value) (t:TypeId) (x:Operand) (f:Nat):M Value:=ev T fr x fun a=>a5W T t a f
def partV (t:TypeId) (cs:List Value) (off:Nat):M Value:=ti T t fun i=>match a3m i.und with
 | true=>M.pure (.agg ⟨a2x (a4c cs off) i.size⟩)
 | false=>M.obind (M8 cs off) M.pure
def a2i (fr:List Value) (t:TypeId) (x:Operand) (f:Nat):M Value:=ev T fr x fun a=>ti T t fun i=>match i.und with
 | .struct fields=>match a with
   | .agg cs=>M.obind (M8 fields.toList f) fun fd=>partV T fd.type cs.toList fd.offset
   | _=>M.fail
 | _=>M.fail
def a0r (fr:List Value) (t:TypeId) (x i:Operand):M Value:=ev T fr x fun a=>ev T fr i fun b=>a5y T t a b
def a2g (fr:List Value) (t:TypeId) (x i:Operand):M Value:=ev T fr x fun a=>ev T fr i fun b=>M.obind (a0K b) fun j=>ti T t fun d=>match d.und with
 | .string=>match a with
   | .string s=>M.obind (M8 s.data.toList j) fun b=>M.pure (a0x b)
   | _=>M.fail
 | .array len elem=>match a with
   | .agg cs=>ti T elem fun e=>M.guard (Nat.blt j len) <| partV T elem cs.toList (j * e.size)
   | _=>M.fail
 | _=>M.fail
def a1K (fr:List Value) (t:TypeId) (x i:Operand) (ok:Bool):M Value:=ev T fr x fun a=>ev T fr i fun b=>a3S T t a b ok
def Y1 (fr:List Value) (t:TypeId) (m k x:Operand):M Value:=ev T fr m fun a=>ev T fr k fun b=>ev T fr x fun v=>
 M.bind (a1A T t a b v) fun _=>M.pure undef
def a2p (fr:List Value) (t:TypeId) (x:Operand):M Value:=ev T fr x fun v=>ti T t fun d=>match d.und with
 | .string=>match v with
   | .string s=>M.bind (new (.siter s 0)) fun b=>M.pure (.pointer (some ⟨b, 0,some 0⟩))
   | _=>M.fail
 | _=>M.fail
def a5l (b:Nat) (s:ByteArray) (pos:Nat):M Value:=match Nat.blt pos (F4 s.data.toList) with
 | true=>a1b (pos+(Utf8.decode s pos).2) fun pos'=>
   M.bind (wr b (.siter s pos')) fun _=>M.pure (.tuple #[.bool true,goInt pos,.int .i32 (Utf8.decode s pos).1])
 | false=>M.pure (.tuple #[.bool false])
def e0O:Option Nat→Bool
 | some g=>Nat.beq g 0
 | none=>false
def a3E (fr:List Value) (x:Operand) (str:Bool):M Value:=M.guard str <| ev T fr x fun v=>K5 v fun a=>M.guard (Nat.beq a.off 0 && e0O a.spot) <|
 M.bind (rd a.block) fun o=>match o with
 | .siter s pos=>a5l a.block s pos
 | _=>M.fail
def a1l (fr:List Value) (x:Operand) (i:Nat):M Value:=ev T fr x fun a=>match a with
 | .tuple vs=>M.obind (M8 vs.toList i) M.pure
 | _=>M.fail
def a1m (fr:List Value) (b:Builtin) (args:Array Operand) (argTypes:Array TypeId):M Value:=evs T fr args.toList fun vs=>match b with
 | .append=>M.guard (Nat.beq (F4 vs) 2) <| appendV T argTypes vs
 | .len=>M.obind (M8 argTypes.toList 0) fun t=>ti T t fun d=>M.obind (M8 vs 0) fun x=>d4T d.und x
 | .max=>M.guard (L6 plain vs) <| pureV (a0H p (Builtin.max_ argTypes 0 ⟨vs⟩))
 | .min=>M.guard (L6 plain vs) <| pureV (a0H p (Builtin.min_ argTypes 0 ⟨vs⟩))
 | _=>M.fail
def a1e (fr:List Value) (o:Op):M Value:=
 match o with
 | .move x=>M.lift (J8 T fr x)
 | .assign x=>M.lift (J8 T fr x)
 | .pick c a b=>a3I T fr c a b
 | .alloc t=>b9T T t
 | .box _ x=>a5B T fr x
 | .build t ps=>a2l T fr t ps
 | .buildSlice t len ps=>a0c T fr t len ps
 | .load t x=>a2P T fr t x
 | .store t x y=>a2r T fr t x y
 | .nilCheck x=>a0O T fr x
 | .binOp op t x y _=>a5C p T fr op t x y
 | .unOp op _ x=>b2g p T fr op x
 | .convert s d x=>a1o T fr s d x
 | .makeInterface t x=>a2t T fr t x
 | .makeFunc fn a b=>a3p T fr fn a b
 | .makeMap t r=>a5N T fr t r
 | .makeSlice t l c=>a3d T fr t l c
 | .slice t x lo hi mx=>a2e T fr t x lo hi mx
 | .fieldAddr t x f=>a0n T fr t x f
 | .field t x f=>a2i T fr t x f
 | .indexAddr t x i=>a0r T fr t x i
 | .index t x i=>a2g T fr t x i
 | .lookup t x i ok=>a1K T fr t x i ok
 | .mapUpdate t m k x=>Y1 T fr t m k x
 | .insert t m k x=>Y1 T fr t m k x
 | .range t x=>a2p T fr t x
 | .next x str=>a3E T fr x str
 | .extract x i=>a1l T fr x i
 | _=>M.fail
def a1E (fr:List Value) (f:Operand) (args:List Operand) (k:Nat→List Value→M Value):M Value:=ev T fr f fun v=>evs T fr args fun vs=>match v with
 | .func fn first captured=>match fn with
   | .func g=>k g (G7 first.toList (G7 vs captured.toList))
   | _=>M.fail
 | _=>M.fail
def a2m (call:Nat→List Value→M Value) (fr:List Value) (c:Call):M Value:=match c.callee with
 | .value f=>a1E T fr f c.args.toList call
 | .builtin b=>a1m p T fr b c.args c.argTypes
 | _=>M.fail
def a2s:Op→Option Call
 | .call c=>some c
 | _=>none
def M7 (call:Nat→List Value→M Value) (fr:List Value) (o:Op):M Value:=match a2s o with
 | some c=>a2m p T call fr c
 | none=>a1e p T fr o
inductive Ex where
 | normal
 | exit (id:Nat)
 | ret
def o7 (b:Bool):Value→Bool
 | .bool b'=>b' == b
 | _=>false
def V7 (ops:List Oper) (j:Nat):Option Tmp:=match M8 ops j with
 | none=>none
 | some o=>o.dst
def M6 (ops:List Oper) (fr:List Value) (o:Oper):Bool:=
 match o.guard with
 | none=>true
 | some jb=>match V7 ops jb.1 with
   | some t=>o7 jb.2 (d9 fr t)
   | none=>false
def G5 (fr:List Value) (o:Oper) (v:Value):List Value:=match o.dst with
 | some t=>a1t fr t v
 | none=>fr
def U1 (fr:List Value) (rs:List ResultVar):M (List Value):=
 List.rec (motive:=fun _=>M (List Value)) (M.pure []) (fun r _ ih=>match r with
  | .tmp t=>M.bind ih fun vs=>M.pure (d9 fr t::vs)
  | .cell a t=>K5 (d9 fr a) fun ad=>M.bind (a1h T t ad) fun v=>M.bind ih fun vs=>M.pure (v::vs)) rs
def a4z:List Value→Value
 | []=>.tuple ⟨[]⟩
 | v::vs=>match vs with
   | []=>v
   | w::ws=>.tuple ⟨v::w::ws⟩
def Z9 (call:Nat→List Value→M Value) (ops:List Oper) (os:List Oper):List Value→M (List Value):=
 List.rec (motive:=fun _=>List Value→M (List Value)) M.pure (fun o _ ih fr=>match M6 ops fr o with
  | true=>M.bind (M7 p T call fr o.op) fun v=>a0R v fun v=>ih (G5 fr o v)
  | false=>ih (G5 fr o undef)) os
def M.foot {α:Type} (m:M α):M (α×(List Nat×List Nat)):=fun s=>match m ⟨s.c,s.h, [], []⟩ with
 | none=>none
 | some x=>some ((x.1,(x.2.r,x.2.w)),⟨x.2.c,x.2.h,G7 x.2.r s.r,G7 x.2.w s.w⟩)
def O4 (call:Nat→List Value→M Value) (ops:List Oper) (os:List Oper):List Value→M (List Value×List (List Nat×List Nat)):=
 List.rec (motive:=fun _=>List Value→M (List Value×List (List Nat×List Nat))) (fun fr=>M.pure (fr, [])) (fun o _ ih fr=>match M6 ops fr o with
  | true=>M.bind (M.foot (M7 p T call fr o.op)) fun x=>a0R x.1 fun v=>M.bind (ih (G5 fr o v)) fun y=>M.pure (y.1,x.2::y.2)
  | false=>M.bind (ih (G5 fr o undef)) fun y=>M.pure (y.1,([], [])::y.2)) os
def a0j (i:Nat) (l:List Nat):Bool:=List.rec (motive:=fun _=>Bool) false (fun x _ ih=>match Nat.beq i x with
 | true=>true
 | false=>ih) l
def Q5 (l m:List Nat):Bool:=L6 (fun i=>!(a0j i m)) l
def a1i (os:List Operand):List Nat:=List.rec (motive:=fun _=>List Nat) [] (fun o _ ih=>match o with
 | .tmp t=>t::ih
 | _=>ih) os
def Q7 (ops:List Oper) (o:Oper):List Nat:=match o.guard with
 | none=>a1i o.op.operands.toList
 | some jb=>match V7 ops jb.1 with
   | some t=>t::a1i o.op.operands.toList
   | none=>a1i o.op.operands.toList
def O9 (o:Oper):List Nat:=match o.dst with
 | some t=>[t]
 | none=>[]
def free2 (ops:List Oper) (x y:Oper×(List Nat×List Nat)):Bool:=
 Q5 x.2.2 y.2.1 && Q5 x.2.2 y.2.2 && Q5 y.2.2 x.2.1 && Q5 (O9 x.1) (Q7 ops y.1) && Q5 (O9 x.1) (O9 y.1) && Q5 (O9 y.1) (Q7 ops x.1)
def Z0 (ps:List (List Nat)) (e:Edge):List Nat:=match Region.binds .any e with
 | true=>match M8 ps e.on with
   | some l=>e.on::l
   | none=>[]
 | false=>[]
def X6 (f:Edge→List Nat) (l:List Edge):List Nat:=List.rec (motive:=fun _=>List Nat) [] (fun e _ ih=>G7 (f e) ih) l
def a0E (ops:List Oper) (pj:List Nat) (y:Oper×(List Nat×List Nat)) (xs:List (Oper×(List Nat×List Nat))):Nat→Bool:=
 List.rec (motive:=fun _=>Nat→Bool) (fun _=>true) (fun x _ ih i=>match a0j i pj || free2 ops x y with
  | true=>ih (i+1)
  | false=>false) xs
def a0I (n:Nat) (l:List Edge):Bool:=L6 (fun e=>match Region.binds .any e with
 | true=>Nat.blt e.on n
 | false=>true) l
def E9 (ops:List Oper) (ys:List (Oper×(List Nat×List Nat))):List (Oper×(List Nat×List Nat))→List (List Nat)→Nat→Bool:=
 List.rec (motive:=fun _=>List (Oper×(List Nat×List Nat))→List (List Nat)→Nat→Bool) (fun _ _ _=>true)
  (fun y _ ih xs ps n=>match a0I n y.1.after.toList && a0E ops (X6 (Z0 ps) y.1.after.toList) y xs 0 with
    | true=>ih (G7 xs [y]) (G7 ps [X6 (Z0 ps) y.1.after.toList]) (n+1)
    | false=>false) ys
def H9 {α β:Type} (l:List α):List β→List (α×β):=
 List.rec (motive:=fun _=>List β→List (α×β)) (fun _=>[]) (fun a _ ih m=>match m with
  | []=>[]
  | b::m=>(a,b)::ih m) l
def region (call:Nat→List Value→M Value) (ops:List Oper) (draw:Bool) (fr:List Value):M (Ex×List Value):=match draw with
 | false=>M.bind (Z9 p T call ops ops fr) fun fr'=>M.pure (.normal,fr')
 | true=>M.bind (O4 p T call ops ops fr) fun y=>M.guard (E9 ops (H9 ops y.2) [] [] 0) <| M.pure (.normal,y.1)
def c2M (call:Nat→List Value→M Value) (ih:Code→List Value→M (Ex×List Value)) (c:Code) (fr:List Value):M (Ex×List Value):=match c with
 | .skip=>M.pure (.normal,fr)
 | .region _ ops draw=>region p T call ops.toList draw fr
 | .seq a b=>M.bind (ih a fr) fun r=>match r.1 with
   | .normal=>ih b r.2
   | .exit id=>M.pure (.exit id,r.2)
   | .ret=>M.pure (.ret,r.2)
 | .cond x a b=>M.obind (J8 T fr x) fun v=>match v with
   | .bool t=>match t with
     | true=>ih a fr
     | false=>ih b fr
   | _=>M.fail
 | .block id b=>M.bind (ih b fr) fun r=>match r.1 with
   | .normal=>M.pure (.normal,r.2)
   | .exit id'=>match Nat.beq id' id with
     | true=>M.pure (.normal,r.2)
     | false=>M.pure (.exit id',r.2)
   | .ret=>M.pure (.ret,r.2)
 | .loop b=>fList fr fun fr=>M.bind (ih b fr) fun r=>match r.1 with
   | .normal=>ih (.loop b) r.2
   | .exit id=>M.pure (.exit id,r.2)
   | .ret=>M.pure (.ret,r.2)
 | .exit id=>M.pure (.exit id,fr)
 | .ret=>M.pure (.ret,fr)
 | _=>M.fail
def a0k (call:Nat→List Value→M Value) (n:Nat):Code→List Value→M (Ex×List Value):=
 Nat.rec (motive:=fun _=>Code→List Value→M (Ex×List Value)) (fun _ _=>M.fail) (fun _ ih=>c2M p T call ih) n
def O1 (n:Nat):List Value:=Nat.rec (motive:=fun _=>List Value) [] (fun _ ih=>undef::ih) n
def d9m:Next→Option Value
 | .value v=>some v
 | _=>none
def a9X (f:Nat) (args:List Value):M Value:=M.guard (L6 plain args) <| M.obind (a0H p (callFunc f ⟨args⟩)) fun x=>M.obind (d9m x) fun v=>
 M.guard (G8 3 v) <| M.pure v
def a2f (fn:Func) (r:Ex×List Value):M Value:=match r.1 with
 | .exit _=>M.fail
 | _=>M.bind (U1 T r.2 fn.results.toList) fun vs=>M.pure (a4z vs)
def enter (call:Nat→List Value→M Value) (n:Nat) (fn:Func) (f:Nat) (args:List Value):M Value:=match fn.body with
 | none=>a9X p f args
 | some c=>M.bind (a0k p T call n c (G7 args (O1 (fn.ntmps - F4 args)))) fun r=>a2f T fn r
def a0u (ext:Nat→Option (List Value→M Value)) (n:Nat):Nat→List Value→M Value:=
 Nat.rec (motive:=fun _=>Nat→List Value→M Value) (fun _ _=>M.fail) (fun n ih f args=>match ext f with
  | some g=>g args
  | none=>M.obind (T.funcs.get f) fun fn=>enter p T ih n fn f args) n
end
end Go.V
end
