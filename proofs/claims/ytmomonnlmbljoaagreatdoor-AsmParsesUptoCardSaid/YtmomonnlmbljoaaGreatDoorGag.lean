import Derived.Test.YtmomonnlmbljoaaGreatDoorGae
import Derived.Test.YtmomonnlmbljoaaGreatDoorGaf
set_option maxRecDepth 1000000
set_option maxHeartbeats 4000000
set_option linter.unusedVariables false
set_option linter.unusedSimpArgs false
noncomputable section
namespace Go.V
def vO (fr:List Value):Operand->Value|.tmp t=>C8 fr t|.const v=>v|.global g=>.pointer (some ⟨g,0,some 0⟩)|.func f=>.func (.func f) #[] #[]
def vL (fr:List Value)(os:List Operand):List Value:=J7 (vO fr) os
section
variable (T:Tab)
def okO:Operand->Bool|.const v=>M7 3 v|.global g=>Nat.blt g T.ng|_=>true
def okL (os:List Operand):Bool:=M0 (okO T) os
def a6T (t:TypeId):Option Nat:=(T.types.get t).map (·.size)
def c8q (t:TypeId):Option Nat:=match T.types.get t with
 |some i=>match Nat.beq i.size 0 with|true=>none|false=>some i.size
 |none=>none
def a8J (t:TypeId):Option (Option Nat):=match T.types.get t with
 |some i=>match a9Y i.und with
  |true=>match Nat.beq i.size 0 with|true=>none|false=>some (some i.size)
  |false=>some none
 |none=>none
def d0W (t:TypeId):Option (List Value):=match T.types.get t with
 |some i=>match M7 8 i.zero&& !(a2A i.zero.cells.toList)with|true=>some i.zero.cells.toList|false=>none
 |none=>none
def c2T (t:TypeId)(f:Nat):Option (Nat×TypeId):=match T.types.get t with
 |some i=>match i.und with
  |.struct fs=>match a0r fs.toList f with|some fd=>some (fd.offset,fd.type)|none=>none
  |_=>none
 |none=>none
def d5B (t:TypeId)(f:Nat):Option Nat:=match c2T T t f with
 |some x=>match c8q T x.2 with|some _=>some x.1|none=>none
 |none=>none
def b5K (t:TypeId)(f:Nat):Option (Nat×Option Nat):=match c2T T t f with
 |some x=>match T.types.get x.2 with
  |some i=>match a9Y i.und with|true=>some (x.1,some i.size)|false=>some (x.1,none)
  |none=>none
 |none=>none
def b8k (t:TypeId):Option Nat:=match T.types.get t with
 |some i=>match i.und with|.slice e=>a6T T e|_=>none
 |none=>none
def d9p (t:TypeId):Option (Nat×Nat):=match T.types.get t with
 |some i=>match i.und with
  |.array n e=>match a6T T e with|some s=>some (s,n)|none=>none
  |_=>none
 |none=>none
def a7r (t:TypeId):Bool:=match T.types.get t with
 |some i=>match i.und with|.string=>true|_=>false
 |none=>false
def c7L (t:TypeId):Option IntKind:=match T.types.get t with
 |some i=>match i.und with|.int k=>some k|_=>none
 |none=>none
def d9c (t:TypeId):Bool:=(T.types.get t).isSome
def c5n (t:TypeId):Bool:=match T.types.get t with|some i=>!(c1z i.und)|none=>false
def d4w (t:TypeId):Bool:=match T.types.get t with|some i=>c3K i.und|none=>false
def a5m (place:Nat->Option (Nat×Nat))(qs:List (Nat×Operand)):Option (List (Nat×Nat)):=List.rec (motive:=λ_=>Option (List (Nat×Nat))) (some []) (λq _ ih=>match place q.1 with|none=>none|some os=>match ih with|none=>none|some l=>some (os::l)) qs
def c5e (t:TypeId)(ps:List (Nat×Operand)):Option (List (Nat×Nat)×List Value):=match T.types.get t with
 |some i=>match M7 8 i.zero with
  |true=>match i.und with
   |.struct fields=>match M0 (c0y T) fields.toList with|true=>(a5m (a5C T fields.toList) ps).map λl=>(l,i.zero.cells.toList)|false=>none
   |.array _ elem=>match a6T T elem with|some n=>(a5m (a1W n) ps).map λl=>(l,i.zero.cells.toList)|none=>none
   |_=>none
  |false=>none
 |none=>none
def b8t (t:TypeId)(len:Nat)(ps:List (Nat×Operand)):Option (Nat×List (Nat×Nat)×List Value):=match T.types.get t with
 |some i=>match i.und with
  |.slice elem=>match T.types.get elem with
   |some e=>match Nat.beq (F9 e.zero.cells.toList) e.size&& !(Nat.beq e.size 0)&&M7 8 e.zero&&Nat.ble (len*e.size) 16777216 with|true=>(a5m (a1W e.size) ps).map λl=>(e.size,l,a5J e.zero.cells.toList len)|false=>none
   |none=>none
  |_=>none
 |none=>none
def d4V (tys:List TypeId):Option TypeId:=match tys with
 |[st,xt]=>match T.types.get st with
  |some i=>match i.und with
   |.slice e=>match T.types.get xt with
    |some d=>match T.types.get e with
     |some te=>match !b3t d.und&& !(Nat.beq te.size 0)with|true=>some e|false=>none
     |none=>none
    |none=>none
   |_=>none
  |none=>none
 |_=>none
def a8b (t:TypeId):TI:=match T.types.get t with|some i=>i|none=>⟨.bool,0,0,undef⟩
end
section
variable {p:Program}{T:Tab}{fr:List Value}
theorem a5k {x}(h:okO T x=true):Y0 T fr x=some (vO fr x):=by cases x with|const v=>have h:M7 3 v=true:=h;unfold Y0;simp only[h];rfl|global g=>have h:Nat.blt g T.ng=true:=h;unfold Y0;simp only[h];rfl|_=>rfl
theorem b5k {os}(h:okL T os=true):a0P T fr os=some (vL fr os):=by induction os with|nil=>rfl|cons o os ih=>unfold okL at h;rw[X7,wh]at h;show(match Y0 T fr o with|none=>none|some v=>match a0P T fr os with|none=>none|some vs=>some (v::vs))=_;rw[a5k h.1,ih h.2];rfl
theorem a0B {x}(h:okO T x=true)(k):ev T fr x k=k (vO fr x):=by unfold ev;rw[a5k h];rfl
theorem a4s {x}(h:okL T x=true)(k):evs T fr x k=k (vL fr x):=by unfold evs;rw[b5k h];rfl
theorem a0F {α}{t:TypeId}{i}(h:T.types.get t=some i)(k:TI->M α):ti T t k=k i:=by unfold ti;rw[h];rfl
theorem e0p {c a b}(h:okL T [c,a,b]=true):O6 p T fr (.pick c a b)=a3R (vO fr c) (vO fr a) (vO fr b):=by simp only[okL,X7,wh]at h;show a9U T fr c a b=_;unfold a9U;rw[a0B h.1,a0B h.2.1,a0B h.2.2.1];rfl
theorem d6q {t zs}(h:d0W T t=some zs):O6 p T fr (.alloc t)=b5j zs:=by show b4j T t=_;unfold d0W at h;cases e:T.types.get t with|none=>rw[e]at h;cases h|some i=>rw[e]at h;simp only at h;split at h;rename_i q;cases h;unfold b4j;rw[a0F e,q];rfl;cases h
theorem e5f {t x}(h:okO T x=true):O6 p T fr (.box t x)=a7m (vO fr x):=by show b2h T fr x=_;unfold b2h;rw[a0B h];rfl
theorem b7U {place}:∀{ps} {os},(a5m place ps=some os)->∀(vs cs),a7J place ps vs cs=a5l os vs cs:=by intro ps;induction ps with|nil=>intro os h vs cs;cases h;rfl|cons q ps ih=>intro os h vs cs;have h:(match place q.1 with|none=>none|some os=>match a5m place ps with|none=>none|some l=>some (os::l))=some os:=h;cases e:place q.1 with|none=>rw[e]at h;cases h|some o=>rw[e]at h;cases e2:a5m place ps with|none=>rw[e2]at h;cases h|some l=>rw[e2]at h;cases h;cases vs with|nil=>rfl|cons v vs=>show(match place q.1 with|none=>none|some os=>match Nat.beq (F9 v.cells.toList) os.2&&Nat.ble (os.1+os.2) (F9 cs)with|true=>a7J place ps vs (a2O v.cells.toList cs os.1)|false=>none)=_;rw[e];simp only[ih e2];rfl
theorem d7t {t ps os zs}(h:c5e T t ps.toList=some (os,zs))(ho:okL T (J7 (·.2) ps.toList)=true):O6 p T fr (.build t ps)=a8R os (vL fr (J7 (·.2) ps.toList)) zs:=by
 show a8z T fr t ps=_;unfold a8z;rw[a4s ho];unfold c5e at h;cases e:T.types.get t with
  |none=>rw[e]at h;cases h|some i=>
   rw[e]at h;rw[a0F e];simp only at h⊢;split at h;rename_i q;rw[q];show(match i.und with|.struct fields=>_|.array _ elem=>_|_=>M.fail)=_;split at h;rename_i fields qu;split at h;rename_i qa;rw[qa];cases e2:a5m (a5C T fields.toList) ps.toList with|none=>rw[e2]at h;cases h|some l=>rw[e2]at h;cases h;show M.obind (a7J _ _ _ _) _=_;rw[b7U e2];rfl
   cases h;rename_i n elem qu;cases e3:T.types.get elem with|none=>grind[a6T]|some te=>rw[a0F e3];simp only[a6T,e3,Option.map]at h;cases e2:a5m (a1W te.size) ps.toList with|none=>rw[e2]at h;cases h|some l=>rw[e2]at h;cases h;rw[b7U e2];rfl
   cases h;cases h
theorem d0w {t len ps n os zs}(h:b8t T t len ps.toList=some (n,os,zs))(ho:okL T (J7 (·.2) ps.toList)=true):O6 p T fr (.buildSlice t len ps)=a9X n len os (vL fr (J7 (·.2) ps.toList)) zs:=by
 show a3E T fr t len ps=_;unfold a3E;rw[a4s ho];unfold b8t at h;cases e:T.types.get t with
  |none=>rw[e]at h;cases h|some i=>
   rw[e]at h;rw[a0F e];simp only at h⊢;split at h;rename_i elem qu;rw[qu];simp only;cases e3:T.types.get elem with
    |none=>rw[e3]at h;cases h|some te=>
     rw[e3]at h;rw[a0F e3];simp only at h;split at h;rename_i qa;rw[qa];cases e2:a5m (a1W te.size) ps.toList with|none=>rw[e2]at h;cases h|some l=>rw[e2]at h;cases h;show M.obind (a7J _ _ _ _) _=_;rw[b7U e2];rfl
     cases h
   cases h
theorem d5L {t x}(h:a8J T t=some none)(ho:okO T x=true):O6 p T fr (.load t x)=a6U (vO fr x):=by show a7V T fr t x=_;grind[a7V,a0B,a8J,a6U,a4E,a0F]
theorem d7i {t x n}(h:a8J T t=some (some n))(ho:okO T x=true):O6 p T fr (.load t x)=b1g n (vO fr x):=by show a7V T fr t x=_;unfold a7V;rw[a0B ho];unfold a8J at h;cases e:T.types.get t with|none=>rw[e]at h;cases h|some i=>rw[e]at h;simp only at h;split at h;rename_i q;split at h;cases h;rename_i q2;cases h;unfold b1g;congr 1;funext a;unfold a4E;rw[a0F e,q,q2];rfl;cases h
theorem d5M {t x y n}(h:a6T T t=some n)(ho:okL T [x,y]=true):O6 p T fr (.store t x y)=a6o n (vO fr x) (vO fr y):=by simp only[okL,X7,wh]at ho;show a8r T fr t x y=_;unfold a8r;rw[a0B ho.1,a0B ho.2.1];unfold a6T at h;cases e:T.types.get t<;>first|rfl|grind[a6o,b6L,a0F]
theorem e6C {x}(ho:okO T x=true):O6 p T fr (.nilCheck x)=e1i (vO fr x):=by show a5i T fr x=_;unfold a5i;rw[a0B ho];rfl
theorem e5U {op t t' x y}(ho:okL T [x,y]=true):O6 p T fr (.binOp op t x y t')=a0J p T op t x y (vO fr x) (vO fr y):=by simp only[okL,X7,wh]at ho;show b2A p T fr op t x y=_;unfold b2A;rw[a0B ho.1,a0B ho.2.1];rfl
theorem e7D {op t x}(ho:okO T x=true):O6 p T fr (.unOp op t x)=xUn p op (vO fr x):=by show b5p p T fr op x=_;unfold b5p;rw[a0B ho];rfl
theorem d6c {s d x k}(h:c7L T d=some k)(hs:d9c T s=true)(ho:okO T x=true):O6 p T fr (.convert s d x)=c2Z k (vO fr x):=by show a4r T fr s d x=_;unfold a4r;rw[a0B ho];unfold c7L at h;unfold d9c at hs;cases e:T.types.get d with|none=>rw[e]at h;cases h|some i=>rw[e]at h;cases e2:T.types.get s with|none=>rw[e2]at hs;cases hs|some j=>simp only at h;unfold b1W;rw[a0F e2,a0F e];split at h;rename_i q;cases h;rw[q];rfl;cases h
theorem e2l {s d x}(h:c7L T d=none)(ho:okO T x=true):O6 p T fr (.convert s d x)=b1W T s d (vO fr x):=by show a4r T fr s d x=_;grind[a4r,a0B]
theorem d7o {t x}(h:c5n T t=true)(ho:okO T x=true):O6 p T fr (.makeInterface t x)=M.pure (.iface t (vO fr x)):=by show a8C T fr t x=_;unfold a8C;rw[a0B ho];unfold c5n at h;cases e:T.types.get t with|none=>rw[e]at h;cases h|some i=>rw[e]at h;rw[a0F e];simp only at h;rw[h];rfl
theorem d8d {fn a b}(h:okL T a.toList=true)(h':okL T b.toList=true):O6 p T fr (.makeFunc fn a b)=d5w fn (vL fr a.toList) (vL fr b.toList):=by show a9R T fr fn a b=_;unfold a9R;rw[a4s h,a4s h'];rfl
theorem d9W {t}:O6 p T fr (.makeMap t none)=c6a:=rfl
theorem d9Z {t x}(h:d4w T t=true)(ho:okO T x=true):O6 p T fr (.makeMap t (some x))=e5S (vO fr x):=by show b1L T fr t (some x)=_;unfold b1L;simp only;rw[a0B ho];unfold d4w at h;cases e:T.types.get t with|none=>rw[e]at h;cases h|some i=>rw[e]at h;rw[a0F e];simp only at h;rw[h];rfl
theorem e1Y {t l c}(ho:okL T [l,c]=true):O6 p T fr (.makeSlice t l c)=b2i T t (vO fr l) (vO fr c):=by simp only[okL,X7,wh]at ho;show a9W T fr t l c=_;grind[a9W,a0B]
theorem c2M {t x lo hi}(ho:okO T x=true)(h1:okL T lo.toList=true)(h2:okL T hi.toList=true):O6 p T fr (.slice t x lo hi none)=b3F T t (vO fr x) (lo.map (vO fr)) (hi.map (vO fr)) none:=by show a8s T fr t x lo hi none=_;unfold a8s;rw[a4s h1,a4s h2];show evs T fr [] _=_;rw[a4s rfl,a0B ho];cases lo<;>cases hi<;>rfl
theorem d1q {t x lo hi}(h:a7r T t=true)(ho:okO T x=true)(h1:okL T lo.toList=true)(h2:okL T hi.toList=true):O6 p T fr (.slice t x lo hi none)=a5H (vO fr x) (lo.map (vO fr)) (hi.map (vO fr)):=by rw[c2M ho h1 h2];unfold a7r at h;cases e:T.types.get t with|none=>rw[e]at h;cases h|some i=>rw[e]at h;unfold b3F;rw[a0F e];simp only at h;split at h;rename_i q;rw[q];rfl;cases h
theorem d1x {t x lo hi n}(h:b8k T t=some n)(ho:okO T x=true)(h1:okL T lo.toList=true)(h2:okL T hi.toList=true):O6 p T fr (.slice t x lo hi none)=a4d n (vO fr x) (lo.map (vO fr)) (hi.map (vO fr)):=by
 rw[c2M ho h1 h2];unfold b8k at h;cases e:T.types.get t with
  |none=>rw[e]at h;cases h|some i=>
   rw[e]at h;unfold b3F;rw[a0F e];simp only at h;split at h;rename_i el q;rw[q];unfold a6T at h;cases e2:T.types.get el with
    |none=>rw[e2]at h;cases h|some j=>
     rw[e2]at h;cases h;unfold a4d;show(match vO fr x with
      |.slice a len es=>ti T el λe=>match a with|some a=>M.guard (Nat.beq es e.size)<|cut T a len el _ _|none=>M.guard (Nat.beq len 0)<|cutNil _ _
      |_=>M.fail)=_;cases vO fr x<;>first|rfl|grind[a0F,cut,cutN]
   cases h
theorem e8M {t x f n}(h:d5B T t f=some n)(ho:okO T x=true):O6 p T fr (.fieldAddr t x f)=xFA n (vO fr x):=by
 show a4t T fr t x f=_;unfold a4t;rw[a0B ho];unfold d5B c2T at h;cases e:T.types.get t with
  |none=>rw[e]at h;cases h|some i=>
   rw[e]at h;unfold b2z;rw[a0F e];simp only at h;cases u:i.und with
    |struct fs=>rw[u]at h;simp only at h⊢;cases g:a0r fs.toList f with|none=>rw[g]at h;cases h|some fd=>rw[g]at h;simp only[c8q]at h;cases e2:T.types.get fd.type with|none=>rw[e2]at h;cases h|some j=>rw[e2]at h;simp only at h;cases q:Nat.beq j.size 0 with|true=>rw[q]at h;cases h|false=>rw[q]at h;cases h;unfold xFA;congr 1;funext a;show ti T fd.type _=_;rw[a0F e2,q];rfl
    |_=>rw[u]at h;cases h
theorem e7J {t x f n}(h:b5K T t f=some (n,none))(ho:okO T x=true):O6 p T fr (.field t x f)=xF1 n (vO fr x):=by
 show a6B T fr t x f=_;unfold a6B;rw[a0B ho];unfold b5K c2T at h;cases e:T.types.get t with
  |none=>rw[e]at h;cases h|some i=>
   rw[e]at h;rw[a0F e];simp only at h;cases u:i.und with
    |struct fs=>rw[u]at h;simp only at h⊢;cases g:a0r fs.toList f with|none=>rw[g]at h;cases h|some fd=>rw[g]at h;simp only at h;cases e2:T.types.get fd.type with|none=>rw[e2]at h;cases h|some j=>rw[e2]at h;simp only at h;split at h;cases h;rename_i q;cases h;unfold xF1;cases vO fr x with|agg cs=>show partV T _ _ _=_;grind[partV,a0F]|_=>rfl
    |_=>rw[u]at h;cases h
theorem e9p {t x f n m}(h:b5K T t f=some (n,some m))(ho:okO T x=true):O6 p T fr (.field t x f)=xFN n m (vO fr x):=by
 show a6B T fr t x f=_;unfold a6B;rw[a0B ho];unfold b5K c2T at h;cases e:T.types.get t with
  |none=>rw[e]at h;cases h|some i=>
   rw[e]at h;rw[a0F e];simp only at h;cases u:i.und with
    |struct fs=>
     rw[u]at h;simp only at h⊢;cases g:a0r fs.toList f with
      |none=>rw[g]at h;cases h|some fd=>
       rw[g]at h;simp only at h;cases e2:T.types.get fd.type with
        |none=>rw[e2]at h;cases h|some j=>
         rw[e2]at h;simp only at h;split at h;rename_i q;cases h;unfold xFN;cases vO fr x with|agg cs=>show partV T _ _ _=_;grind[partV,a0F]|_=>rfl
         cases h
    |_=>rw[u]at h;cases h
theorem e2Z {t x i n}(h:b8k T t=some n)(ho:okL T [x,i]=true):O6 p T fr (.indexAddr t x i)=a7l n (vO fr x) (vO fr i):=by
 simp only[okL,X7,wh]at ho;show a2K T fr t x i=_;unfold a2K;rw[a0B ho.1,a0B ho.2.1];unfold b8k at h;cases e:T.types.get t with
  |none=>rw[e]at h;cases h|some d=>
   rw[e]at h;unfold a9H;rw[a0F e];simp only at h;cases u:d.und with
    |slice el=>rw[u]at h;simp only[a6T]at h;cases e2:T.types.get el with|none=>rw[e2]at h;cases h|some j=>rw[e2]at h;cases h;unfold a7l;congr 1;funext k;show(match vO fr x with|.slice a len es=>M.obind a λa=>ti T el λe=>M.guard (Nat.beq es e.size)<|elemAt T a k len el|_=>M.fail)=_;cases vO fr x<;>first|rfl|grind[a0F,elemAt,elemAtN]
    |_=>rw[u]at h;cases h
theorem e4n {t x i n m}(h:d9p T t=some (n,m))(ho:okL T [x,i]=true):O6 p T fr (.indexAddr t x i)=c7o n m (vO fr x) (vO fr i):=by
 simp only[okL,X7,wh]at ho;show a2K T fr t x i=_;unfold a2K;rw[a0B ho.1,a0B ho.2.1];unfold d9p at h;cases e:T.types.get t with
  |none=>rw[e]at h;cases h|some d=>
   rw[e]at h;unfold a9H;rw[a0F e];simp only at h;cases u:d.und with
    |array len el=>rw[u]at h;simp only[a6T]at h;cases e2:T.types.get el<;>first|rfl|grind[c7o,elemAt,elemAtN,a0F]
    |_=>rw[u]at h;cases h
theorem d7U {t x i}(h:a7r T t=true)(ho:okL T [x,i]=true):O6 p T fr (.index t x i)=b6c (vO fr x) (vO fr i):=by simp only[okL,X7,wh]at ho;show a8w T fr t x i=_;grind[a8w,a0B,a7r,b6c,a0F]
theorem d2s {t x i ok}(ho:okL T [x,i]=true):O6 p T fr (.lookup t x i ok)=b1d T t (vO fr x) (vO fr i) ok:=by simp only[okL,X7,wh]at ho;show a7f T fr t x i ok=_;grind[a7f,a0B]
theorem d5o {t m k x}(ho:okL T [m,k,x]=true):O6 p T fr (.mapUpdate t m k x)=b7Z T t (vO fr m) (vO fr k) (vO fr x):=by simp only[okL,X7,wh]at ho;show a3J T fr t m k x=_;unfold a3J;rw[a0B ho.1,a0B ho.2.1,a0B ho.2.2.1];rfl
theorem e3t {t m k x}(ho:okL T [m,k,x]=true):O6 p T fr (.insert t m k x)=b7Z T t (vO fr m) (vO fr k) (vO fr x):=d5o (p:=p) ho
theorem e4B {x i}(ho:okO T x=true):O6 p T fr (.extract x i)=d8q i (vO fr x):=by show a6p T fr x i=_;unfold a6p;rw[a0B ho];rfl
theorem d6w {t x}(h:a7r T t=true)(ho:okO T x=true):O6 p T fr (.range t x)=d9j (vO fr x):=by show a8l T fr t x=_;unfold a8l;rw[a0B ho];unfold a7r at h;cases e:T.types.get t with|none=>rw[e]at h;cases h|some d=>rw[e]at h;simp only at h;split at h;rename_i q;rw[a0F e,q];rfl;cases h
theorem e0O {x}(ho:okO T x=true):O6 p T fr (.next x true)=e4J (vO fr x):=by show a9V T fr x true=_;unfold a9V;show ev T fr x _=_;rw[a0B ho];rfl
theorem d7G {x t}(h:a7r T t=true)(ho:okO T x=true):a0L p T fr .len #[x] #[t]=a3S (vO fr x):=by unfold a0L;rw[a4s (by show okL T [x]=true;unfold okL;rw[X7,ho];rfl)];unfold a7r at h;cases e:T.types.get t with|none=>rw[e]at h;cases h|some d=>rw[e]at h;simp only at h;split at h;rename_i q;show ti T t _=_;rw[a0F e,q];rfl;cases h
theorem d9w {x t n}(h:b8k T t=some n)(ho:okO T x=true):a0L p T fr .len #[x] #[t]=b1Z (vO fr x):=by unfold a0L;rw[a4s (by show okL T [x]=true;unfold okL;rw[X7,ho];rfl)];unfold b8k at h;cases e:T.types.get t with|none=>rw[e]at h;cases h|some d=>rw[e]at h;simp only at h;split at h;rename_i q;show ti T t _=_;rw[a0F e,q];rfl;cases h
theorem e5M {s x a b e}(h:d4V T [a,b]=some e)(ho:okL T [s,x]=true):a0L p T fr .append #[s,x] #[a,b]=a3G (a8b T e) (vO fr s) (vO fr x):=by
 unfold a0L;rw[a4s zy];show M.guard true (appendV T _ _)=_;show ti T a (λd=>ti T b λdx=>_)=_;unfold d4V at h;simp only at h;cases e1:T.types.get a with
  |none=>rw[e1]at h;cases h|some i=>
   rw[e1]at h;simp only at h;cases u:i.und with
    |slice el=>rw[u]at h;simp only at h;cases e2:T.types.get b with|none=>rw[e2]at h;cases h|some d=>rw[e2]at h;simp only at h;cases e3:T.types.get el with|none=>rw[e3]at h;cases h|some te=>rw[e3]at h;simp only at h;split at h;rename_i q;cases h;rw[a0F e1,a0F e2,u];show ti T e _=_;rw[a0F e3,q];unfold a8b;rw[e3];rfl;cases h
    |_=>rw[u]at h;cases h
theorem e3I {a ts}(ho:okL T a.toList=true):a0L p T fr .max a ts=e2m p ts (vL fr a.toList):=by unfold a0L;rw[a4s ho];rfl
theorem e4r {a ts}(ho:okL T a.toList=true):a0L p T fr .min a ts=e7O p ts (vL fr a.toList):=by unfold a0L;rw[a4s ho];rfl
end
end Go.V
end
noncomputable section
namespace Go.V
theorem d3D:a0t 0=[]:=wm rfl rfl
theorem d2q (n):a0t (n+1)=undef::a0t n:=wm rfl rfl
theorem s_0 (v l x):a4P (v::l) 0 x=x::l:=wm rfl rfl
theorem s_s (v l i x):a4P (v::l) (i+1) x=v::a4P l i x:=wm rfl rfl
theorem e8s (a0 a1 a2 a3 a4 a5 a6 a7 a8 a9 a10 a11 a12 a13 a14 a15 l i):C8 (a0::a1::a2::a3::a4::a5::a6::a7::a8::a9::a10::a11::a12::a13::a14::a15::l) (i+16)=C8 l i:=wm rfl rfl
theorem e7E (a0 a1 a2 a3 a4 a5 a6 a7 a8 a9 a10 a11 a12 a13 a14 a15 l i x):a4P (a0::a1::a2::a3::a4::a5::a6::a7::a8::a9::a10::a11::a12::a13::a14::a15::l) (i+16) x=a0::a1::a2::a3::a4::a5::a6::a7::a8::a9::a10::a11::a12::a13::a14::a15::a4P l i x:=wm rfl rfl
theorem e7T (f:Operand->Value)(x):Option.map f (some x)=some (f x):=wm rfl rfl
theorem f0v (f:Operand->Value):Option.map f none=none:=wm rfl rfl
theorem c7p (fr):P5 fr []=[]:=wm rfl rfl
theorem c3U (fr i W):P5 fr (i::W)=C8 fr i::P5 fr W:=wm rfl rfl
theorem c4b (vs fr i):a5B vs [] i fr=fr:=wm rfl rfl
theorem c2B (vs fr t W i):a5B vs (t::W) i fr=a5B vs W (i+1) (a4P fr t (C8 vs i)):=wm rfl rfl
theorem c8T (vs fr W):M6 W vs fr=a5B vs W 0 fr:=wm rfl rfl
theorem d8L (fr)(t:Nat):vO fr (.tmp t)=C8 fr t:=wm rfl rfl
theorem e1b (fr k n m)(h:n=m):vO fr (.const (.int k n))=.int k m:=by rw[<-h];rfl
theorem d1B (fr v)(h:b6i v=false):vO fr (.const v)=v:=wm rfl rfl
theorem c8K (fr g):vO fr (.global g)=.pointer (some ⟨g,0,some 0⟩):=wm rfl rfl
theorem d5I (fr)(f:Nat):vO fr (.func f)=.func (.func f) #[] #[]:=wm rfl rfl
theorem d8V (fr):vL fr []=[]:=wm rfl rfl
theorem d6f (fr o os):vL fr (o::os)=vO fr o::vL fr os:=wm rfl rfl
def a5K (d:Option Nat)(fr:List Value)(v:Value):List Value:=match d with|some t=>a4P fr t v|none=>fr
theorem c9r (t fr v):a5K (some t) fr v=a4P fr t v:=wm rfl rfl
theorem c8P (fr v):a5K none fr v=fr:=wm rfl rfl
theorem d9m (v):a7E [v]=v:=wm rfl rfl
theorem e2y:a7E []=.tuple ⟨[]⟩:=wm rfl rfl
theorem e1G (v w vs):a7E (v::w::vs)=.tuple ⟨v::w::vs⟩:=wm rfl rfl
def b5f:Op->Bool|.move _=>false|.assign _=>false|.call _=>false|.panic _=>false|_=>true
section
variable {p:Program}{T:Tab}{cb:Cb}{N:Nat}{call:I5}{β:Type}{fr:List Value}{k:Xc->List Value->M β}{d:Option Nat}{ty:TypeId}{pos:String}{af:Array Edge}{g:Option (Nat×Bool)}{os:List Oper}
theorem b9I:a0x p T cb false call [] fr k=k .normal fr:=rfl
theorem e1N {x}(h:okO T x=true):a0x p T cb false call (⟨d,.move x,ty,pos,af,g⟩::os) fr k=a0x p T cb false call os (a5K d fr (vO fr x)) k:=by show M.obind (Y0 T fr x) _=_;rw[a5k h];cases d<;>rfl
theorem d3j {x}(h:okO T x=true):a0x p T cb false call (⟨d,.assign x,ty,pos,af,g⟩::os) fr k=a0x p T cb false call os (a5K d fr (vO fr x)) k:=by show M.obind (Y0 T fr x) _=_;rw[a5k h];cases d<;>rfl
theorem d3c {o}(h:b5f o=true):a0x p T cb false call (⟨d,o,ty,pos,af,g⟩::os) fr k=cb.bv β (O6 p T fr o) λv=>a0x p T cb false call os (a5K d fr v) k:=by cases d<;>cases o<;>first|rfl|cases h
theorem e0L {f:Nat}{a ts}(h:okL T a.toList=true):a0x p T cb false call (⟨d,.call ⟨.value (.func f),a,ts⟩,ty,pos,af,g⟩::os) fr k=cb.bc β (call f (vL fr a.toList)) (λv=>a0x p T cb false call os (a5K d fr v) k) noP:=by
 show M.obind (a4Q T fr (.func f) a.toList) _=_;have:a4Q T fr (.func f) a.toList=some (f,vL fr a.toList):=by unfold a4Q;rw[b5k h];show some (f,I9 [] (I9 (vL fr a.toList) []))=_;rw[a5g,V7,wR]
 rw[this];cases d<;>rfl
theorem d7g {f a ts}(hf:okO T f=true)(h:okL T a.toList=true):a0x p T cb false call (⟨d,.call ⟨.value f,a,ts⟩,ty,pos,af,g⟩::os) fr k=M.obind (b4B (vO fr f) (vL fr a.toList)) λga=>cb.bc β (call ga.1 ga.2) (λv=>a0x p T cb false call os (a5K d fr v) k) noP:=by
 show M.obind (a4Q T fr f a.toList) _=_;have:a4Q T fr f a.toList=b4B (vO fr f) (vL fr a.toList):=by grind[a4Q,b5k,a5k]
 rw[this];cases d<;>rfl
theorem c8O {b a ts}:a0x p T cb false call (⟨d,.call ⟨.builtin b,a,ts⟩,ty,pos,af,g⟩::os) fr k=cb.bv β (a0L p T fr b a ts) λv=>a0x p T cb false call os (a5K d fr v) k:=by cases d<;>rfl
theorem d7n {x}(h:okO T x=true):a0x p T cb false call (⟨d,.panic x,ty,pos,af,g⟩::os) fr k=M.guard (a5e (vO fr x)) M.fail:=by show M.obind (Y0 T fr x) _=_;rw[a5k h];rfl
def a5O (g:Option (Nat×Bool)):List Oper->List Oper|[]=>[]|o::os=>match a4l g o.guard with|true=>o::a5O g os|false=>[]
def a7P (g:Option (Nat×Bool)):List Oper->List Oper|[]=>[]|o::os=>match a4l g o.guard with|true=>a7P g os|false=>o::os
theorem d0M {a b}(h:a4l a b=true):a=b:=by
 cases a with
  |none=>cases b with|none=>rfl|some b=>cases h
  |some a=>cases b with|none=>cases h|some b=>simp only[a4l,wh,rJ]at h;rw[show a=b from Prod.ext (wo h.1) h.2]
theorem b4S:∀(os) (o),a1U (o::os)=(o.guard,o::a5O o.guard os)::a1U (a7P o.guard os):=by intro os;induction os with|nil=>intro o;rfl|cons o2 os ih=>intro o;have hs:a1U (o::o2::os)=(match a1U (o2::os)with|[]=>[(o.guard,[o])]|g::gs=>match a4l o.guard g.1 with|true=>(g.1,o::g.2)::gs|false=>(o.guard,[o])::g::gs):=rfl;rw[hs,ih o2];grind[a5O,a7P,d0M]
def b2d (p:Program)(T:Tab)(cb:Cb)(call:I5){β:Type}(g:Option (Nat×Bool))(os:List Oper)(fr:List Value)(k:Xc->List Value->M β):M β:=a0x p T cb false call (a5O g os) fr k
def a9t (p:Program)(T:Tab)(cb:Cb)(call:I5){β:Type}(ops:List Oper)(g:Option (Nat×Bool))(os:List Oper)(fr:List Value)(k:Xc->List Value->M β):M β:=a7Y p T cb false call ops (a1U (a7P g os)) fr k
theorem e5u {o}:a0x p T cb false call (o::os) fr k=a0x p T cb false call [o] fr λex fr'=>X3 ex (a0x p T cb false call os fr' k) (λ_=>M.fail) M.fail λ_=>M.fail:=by rfl
theorem c0r:b2d p T cb call g [] fr k=k .normal fr:=rfl
theorem b5P {o g'}(h:a4l g g'=true):b2d p T cb call g (⟨d,o,ty,pos,af,g'⟩::os) fr k=a0x p T cb false call [⟨d,o,ty,pos,af,g'⟩] fr λex fr'=>X3 ex (b2d p T cb call g os fr' k) (λ_=>M.fail) M.fail λ_=>M.fail:=by
 have e:a5O g (⟨d,o,ty,pos,af,g'⟩::os)=⟨d,o,ty,pos,af,g'⟩::a5O g os:=by rw[a5O];grind
 unfold b2d;rw[e];exact e5u
theorem b6P {o g'}(h:a4l g g'=false):b2d p T cb call g (⟨d,o,ty,pos,af,g'⟩::os) fr k=k .normal fr:=by
 have e:a5O g (⟨d,o,ty,pos,af,g'⟩::os)=[]:=by rw[a5O];grind
 unfold b2d;rw[e];rfl
theorem b9X {ops}:a9t p T cb call ops g [] fr k=k .normal fr:=rfl
theorem b6z {ops o g'}(h:a4l g g'=true):a9t p T cb call ops g (⟨d,o,ty,pos,af,g'⟩::os) fr k=a9t p T cb call ops g os fr k:=by
 have e:a7P g (⟨d,o,ty,pos,af,g'⟩::os)=a7P g os:=by rw[a7P];grind
 grind[a9t]
theorem b5V {ops o}(h:a4l g none=false):a9t p T cb call ops g (⟨d,o,ty,pos,af,none⟩::os) fr k=b2d p T cb call none (⟨d,o,ty,pos,af,none⟩::os) fr λex fr'=>X3 ex (a9t p T cb call ops none os fr' k) (λ_=>M.fail) M.fail λv=>k (.pan v) fr':=by unfold a9t;rw[show a7P g (⟨d,o,ty,pos,af,none⟩::os)=⟨d,o,ty,pos,af,none⟩::os by rw[a7P];grind,b4S];rfl
theorem b6u {ops o}{j z t:Nat}{b D}(h:a4l g (some (j,b))=false)(hj:a4k ops j=some t)(hD:O3 (⟨d,o,ty,pos,af,some (j,b)⟩::a5O (some (j,b)) os)=D)(hm:a2D t D=false)(hz:F9 D=z):a9t p T cb call ops g (⟨d,o,ty,pos,af,some (j,b)⟩::os) fr k=cb.bj β (bcase (a1O b (C8 fr t)) (b2d p T cb call (some (j,b)) (⟨d,o,ty,pos,af,some (j,b)⟩::os) fr λex fr'=>M.pure (ex,P5 fr' D)) (M.pure (.normal,a0t z))) λex vs=>X3 ex (a9t p T cb call ops (some (j,b)) os (M6 D vs fr) k) (λ_=>M.fail) M.fail noP:=by
 have hs:a5O (some (j,b)) (⟨d,o,ty,pos,af,some (j,b)⟩::os)=⟨d,o,ty,pos,af,some (j,b)⟩::a5O (some (j,b)) os:=by
  have:a4l (some (j,b)) (some (j,b))=true:=by simp[a4l]
  rw[a5O];simp_all
 unfold a9t b2d;rw[show a7P g (⟨d,o,ty,pos,af,some (j,b)⟩::os)=⟨d,o,ty,pos,af,some (j,b)⟩::os by rw[a7P];grind,b4S,hs];show M.obind (a4k ops j) _=_;rw[hj];show M.guard (!(a2D t (O3 (⟨d,o,ty,pos,af,some (j,b)⟩::a5O (some (j,b)) os)))) _=_;rw[hD,hm,<-hz];rfl
def b2s (ops:List Oper):Bool:=M0 (λo=>o.guard.isNone) ops
theorem c3D:∀(ops),b2s ops=true->a1U ops=[]/\ops=[]\/a1U ops=[(none,ops)]:=by
 intro ops;induction ops with
  |nil=>intro _;exact Or.inl ⟨rfl,rfl⟩|cons o os ih=>
   intro h;unfold b2s at h;rw[X7,wh]at h;have hg:o.guard=none:=by simpa using h.1
   have hs:a1U (o::os)=(match a1U os with|[]=>[(o.guard,[o])]|g::gs=>match a4l o.guard g.1 with|true=>(g.1,o::g.2)::gs|false=>(o.guard,[o])::g::gs):=rfl;right;rcases ih h.2 with⟨q,rfl⟩|q;rw[hs,hg];rfl;rw[hs,q,hg];rfl
theorem d6m {ops:Array Oper}(h:b2s ops.toList=true):b7X p T cb false call ops.toList false fr k=a0x p T cb false call ops.toList fr k:=by show a7Y p T cb false call ops.toList (a1U ops.toList) fr k=_;rcases c3D _ h with⟨q,e⟩|q;rw[q,e];rfl;rw[q];show a0x p T cb false call ops.toList fr (λex fr'=>X3 ex (k .normal fr') (λ_=>M.fail) M.fail λv=>k (.pan v) fr')=_;generalize ops.toList=l;induction l generalizing fr with|nil=>rfl|cons o os ih=>obtain⟨d,o,ty,pos,af,g⟩:=o;show a3T p T cb call fr o (λv=>a0x p T cb false call os (Q8 fr _ v) _) _=a3T p T cb call fr o (λv=>a0x p T cb false call os (Q8 fr _ v) _) _;congr 1;funext v;exact ih
variable {id:Nat}{ops:Array Oper}{pl pa pb:Pl}{a b:Code}{W E:List Nat}
theorem b7v:O1 p T cb false N call .skip pl β fr k=k .normal fr:=rfl
theorem b4k (h:b2s ops.toList=true):O1 p T cb false N call (.region id ops false) pl β fr k=a0x p T cb false call ops.toList fr k:=d6m h
theorem b1I:O1 p T cb false N call (.region id ops false) pl β fr k=a7Y p T cb false call ops.toList (a1U ops.toList) fr k:=rfl
theorem b9M {ops}:a7Y p T cb false call ops (a1U []) fr k=k .normal fr:=rfl
theorem b6f {ops o}:a7Y p T cb false call ops (a1U (⟨d,o,ty,pos,af,none⟩::os)) fr k=a9t p T cb call ops (some (0,true)) (⟨d,o,ty,pos,af,none⟩::os) fr k:=rfl
theorem b6S {ops o j b}:a7Y p T cb false call ops (a1U (⟨d,o,ty,pos,af,some (j,b)⟩::os)) fr k=a9t p T cb call ops none (⟨d,o,ty,pos,af,some (j,b)⟩::os) fr k:=rfl
def b2o (L:List (Nat×Nat))(F:List a0A):Bool:=a0v L F
theorem D9 {α L F}{m:M α}(h:a0v L F=true):M.guard (b2o L F) m=m:=by unfold b2o;rw[h];rfl
theorem b5G {c ops F}{q:List Value->List a0A->M β}:a2Z p T c ops [] fr F q=q fr F:=rfl
theorem d7q {c ops F}{q:List Value->List a0A->M β}{o}:a2Z p T c ops (⟨d,o,ty,pos,af,none⟩::os) fr F q=M.bind (M.foot (Z8 p T c fr o)) λx=>a2Z p T c ops os (a5K d fr x.1) (I9 F [x.2]) q:=by cases d<;>rfl
theorem d6F {c ops F}{q:List Value->List a0A->M β}{o}{j t:Nat}{b}(h:a4k ops j=some t):a2Z p T c ops (⟨d,o,ty,pos,af,some (j,b)⟩::os) fr F q=M.bind (bcase (a1O b (C8 fr t)) (M.foot (Z8 p T c fr o)) (M.pure (undef,([],[])))) λx=>a2Z p T c ops os (a5K d fr x.1) (I9 F [x.2]) q:=by
 have e:b1C p T c ops fr ⟨d,o,ty,pos,af,some (j,b)⟩=bcase (a1O b (C8 fr t)) (M.foot (Z8 p T c fr o)) (M.pure (undef,([],[]))):=by grind[b1C,a1T]
 have e0:∀o:Oper,a2Z p T c ops (o::os) fr F q=M.bind (b1C p T c ops fr o) λx=>a2Z p T c ops os (Q8 fr o x.1) (I9 F [x.2]) q:=λ_=>rfl;rw[e0,e];cases d<;>rfl
theorem d7A {c x}(h:okO T x=true):Z8 p T c fr (.move x)=M.pure (vO fr x):=by show M.lift (Y0 T fr x)=_;rw[a5k h];rfl
theorem c8L {c x}(h:okO T x=true):Z8 p T c fr (.assign x)=M.pure (vO fr x):=by show M.lift (Y0 T fr x)=_;rw[a5k h];rfl
theorem c8w {c o}(h:b5f o=true):Z8 p T c fr o=O6 p T fr o:=by cases o<;>first|rfl|cases h
theorem c6g {c b a ts}:Z8 p T c fr (.call ⟨.builtin b,a,ts⟩)=a0L p T fr b a ts:=rfl
theorem d6p {c}{f:Nat}{a ts}(h:okL T a.toList=true):Z8 p T c fr (.call ⟨.value (.func f),a,ts⟩)=c f (vL fr a.toList):=by show a5h T fr (.func f) a.toList c=_;unfold a5h;rw[a0B rfl,a4s h];show c f (I9 [] (I9 (vL fr a.toList) []))=_;rw[a5g,V7,wR]
theorem d3r {c}{f:Nat}{a ts}(h:okL T a.toList=true):Z8 p T c fr (.call ⟨.value (.tmp f),a,ts⟩)=c4Z (C8 fr f) (vL fr a.toList) c:=by show a5h T fr (.tmp f) a.toList c=_;unfold a5h;rw[a0B rfl,a4s h];rfl
theorem c4v {c ops}{q q':List Value->List a0A->M β}:∀(os) (fr) (F),(∀fr G,F9 G=F9 F+F9 os->q fr G=q' fr G)->a2Z p T c ops os fr F q=a2Z p T c ops os fr F q':=by intro os;induction os with|nil=>intro fr F h;exact h fr F (by rfl)|cons o os ih=>intro fr F h;have e0:∀q:List Value->List a0A->M β,a2Z p T c ops (o::os) fr F q=M.bind (b1C p T c ops fr o) λx=>a2Z p T c ops os (Q8 fr o x.1) (I9 F [x.2]) q:=λ_=>rfl;rw[e0,e0];grind[J2,V7]
theorem b6k {n U D L}(hL:b6H ops.toList ops.toList [] [] 0=some L)(hn:F9 fr=n)(hU:a2L (a4u ops.toList ops.toList)=U)(hD:O3 ops.toList=D):O1 p T cb false N call (.region id ops true) pl β fr k=cb.bj β (a2Z p T (a1M call) ops.toList ops.toList (M6 U (P5 fr U) (a0t n)) [] λfr' F=>M.guard (b2o L F) (M.pure (.normal,P5 fr' D))) λ_ vs=>k .normal (M6 D vs fr):=by rw[<-hn,<-hU,<-hD];show cb.bj β (b7j p T call ops.toList _ _ _ _) _=_;rw[d2R];congr 1;refine c4v _ _ _ λfr G hG=>?_;rw[d6k hL (by rw[hG];simp[J2])];rfl
def b7H (p:Program)(T:Tab)(cb:Cb)(N:Nat)(call:I5){β:Type}(b:Code)(pb:Pl)(k:Xc->List Value->M β):Xc->List Value->M β:=λex fr'=>X3 ex (O1 p T cb false N call b pb β fr' k) (λid=>k (.exit id) fr') (k .ret fr') (λv=>k (.pan v) fr')
theorem b6I:O1 p T cb false N call (.seq a b) .d β fr k=O1 p T cb false N call a .d β fr (b7H p T cb N call b .d k):=rfl
theorem b7l:O1 p T cb false N call (.seq a b) (.s none pa pb) β fr k=O1 p T cb false N call a pa β fr (b7H p T cb N call b pb k):=rfl
theorem b6Y:O1 p T cb false N call (.seq a b) (.l W pa) β fr k=O1 p T cb false N call a pa β fr (b7H p T cb N call b .d k):=rfl
theorem k_n:b7H p T cb N call b pb k .normal fr=O1 p T cb false N call b pb β fr k:=rfl
theorem k_e {i}:b7H p T cb N call b pb k (.exit i) fr=k (.exit i) fr:=rfl
theorem k_r:b7H p T cb N call b pb k .ret fr=k .ret fr:=rfl
theorem c5l {r}(hs:a9Z (a0I a) W=true)(hE:a2L (a2u a)=E)(hr:hasRet a=r):O1 p T cb false N call (.seq a b) (.s (some W) pa pb) β fr k=cb.bj β (O1 p T cb false N call a pa (Xc×List Value) fr λex fr'=>M.pure (ex,P5 fr' W)) λex vs=>X3 ex (O1 p T cb false N call b pb β (M6 W vs fr) k) (λid=>a4g E id λx=>k x (M6 W vs fr)) (bcase r (k .ret (M6 W vs fr)) M.fail) noP:=by rw[<-hE,<-hr];show M.guard (a9Z (a0I a) W) _=_;rw[hs];rfl
theorem b4I (hs:a9Z (a0I a) W=true)(hE:a2L (a2u a)=E)(hr:hasRet a=true):O1 p T cb false N call (.seq a b) (.s (some W) pa pb) β fr k=cb.bj β (O1 p T cb false N call a pa (Xc×List Value) fr λex fr'=>M.pure (ex,P5 fr' W)) λex vs=>X3 ex (O1 p T cb false N call b pb β (M6 W vs fr) k) (λid=>a4g E id λx=>k x (M6 W vs fr)) (k .ret (M6 W vs fr)) noP:=c5l hs hE hr
theorem b4A (hs:a9Z (a0I a) W=true)(hE:a2L (a2u a)=E)(hr:hasRet a=false):O1 p T cb false N call (.seq a b) (.s (some W) pa pb) β fr k=cb.bj β (O1 p T cb false N call a pa (Xc×List Value) fr λex fr'=>M.pure (ex,P5 fr' W)) λex vs=>X3 ex (O1 p T cb false N call b pb β (M6 W vs fr) k) (λid=>a4g E id λx=>k x (M6 W vs fr)) M.fail noP:=c5l hs hE hr
def b5v {β:Type}(id:Nat)(k:Xc->List Value->M β):Xc->List Value->M β:=λex fr'=>k (a6m id ex) fr'
theorem b2I:O1 p T cb false N call (.block id b) .d β fr k=O1 p T cb false N call b .d β fr (b5v id k):=rfl
theorem b2b {j}:O1 p T cb false N call (.block id b) (.s j pa pb) β fr k=O1 p T cb false N call b pa β fr (b5v id k):=rfl
theorem b2x:O1 p T cb false N call (.block id b) (.l W pa) β fr k=O1 p T cb false N call b pa β fr (b5v id k):=rfl
theorem c8d:b5v id k .normal fr=k .normal fr:=rfl
theorem c6o:b5v id k .ret fr=k .ret fr:=rfl
theorem c6O {i:Nat}(h:Nat.beq i id=true):b5v id k (.exit i) fr=k .normal fr:=xR
theorem c8g {i:Nat}(h:Nat.beq i id=false):b5v id k (.exit i) fr=k (.exit i) fr:=xR
theorem c5E {r}(hs:a9Z (a0I b) W=true)(hE:a2L (a2u b)=E)(hr:hasRet b=r):O1 p T cb false N call (.loop b) (.l W pa) β fr k=cb.bj β (cb.lp (λxs=>O1 p T cb false N call b pa (Xc×List Value) (M6 W xs fr) λex fr'=>M.pure (ex,P5 fr' W)) N (P5 fr W)) λex vs=>X3 ex M.fail (λid=>a4g E id λx=>k x (M6 W vs fr)) (bcase r (k .ret (M6 W vs fr)) M.fail) noP:=by rw[<-hE,<-hr];show M.guard (a9Z (a0I b) W) _=_;rw[hs];rfl
theorem b4o (hs:a9Z (a0I b) W=true)(hE:a2L (a2u b)=E)(hr:hasRet b=true):O1 p T cb false N call (.loop b) (.l W pa) β fr k=cb.bj β (cb.lp (λxs=>O1 p T cb false N call b pa (Xc×List Value) (M6 W xs fr) λex fr'=>M.pure (ex,P5 fr' W)) N (P5 fr W)) λex vs=>X3 ex M.fail (λid=>a4g E id λx=>k x (M6 W vs fr)) (k .ret (M6 W vs fr)) noP:=c5E hs hE hr
theorem b4u (hs:a9Z (a0I b) W=true)(hE:a2L (a2u b)=E)(hr:hasRet b=false):O1 p T cb false N call (.loop b) (.l W pa) β fr k=cb.bj β (cb.lp (λxs=>O1 p T cb false N call b pa (Xc×List Value) (M6 W xs fr) λex fr'=>M.pure (ex,P5 fr' W)) N (P5 fr W)) λex vs=>X3 ex M.fail (λid=>a4g E id λx=>k x (M6 W vs fr)) M.fail noP:=c5E hs hE hr
theorem b6l:O1 p T cb false N call (.exit id) pl β fr k=k (.exit id) fr:=rfl
theorem c0A:O1 p T cb false N call .ret pl β fr k=k .ret fr:=rfl
theorem b7o {i}{k:Xc->M β}:a4g [] i k=M.fail:=rfl
theorem b4s {i e}{k:Xc->M β}:a4g (e::E) i k=bcase (Nat.beq i e) (k (.exit e)) (a4g E i k):=rfl
def a6x:Code->Pl->List (Code×List Nat×Pl)|.seq a b,pl=>a6x a pl.a++a6x b pl.b|.cond _ a b,pl=>a6x a pl.a++a6x b pl.b|.block _ b,pl=>a6x b pl.a|.loop b,pl=>(b,pl.w,pl.a)::a6x b pl.a|_,_=>[]
def lq (p:Program)(T:Tab)(cb:Cb)(N:Nat)(call:I5)(f:Func)(pl:Pl)(i:Nat)(S:List Nat)(vs xs:List Value):M (Xc×List Value):=match a0r (a6x (b0l f) pl) i with|some x=>O1 p T cb false N call x.1 x.2.2 (Xc×List Value) (M6 x.2.1 xs (M6 S vs (a0t f.ntmps))) λex fr'=>M.pure (ex,P5 fr' x.2.1)|none=>M.fail
theorem e0r {f:Func}{i n:Nat}{S:List Nat}{vs xs:List Value}(h:a0r (a6x (b0l f) pl) i=some (b,W,pa))(hn:f.ntmps=n:=by with_unfolding_all (conv=>lhs;reduce)):lq p T cb N call f pl i S vs xs=O1 p T cb false N call b pa (Xc×List Value) (M6 W xs (M6 S vs (a0t n))) λex fr'=>M.pure (ex,P5 fr' W):=by grind[lq]
theorem c5Q {j}:Pl.a (.s j pa pb)=pa:=rfl
theorem c7M:Pl.a (.l W pa)=pa:=rfl
theorem d1A {j}:Pl.b (.s j pa pb)=pb:=rfl
theorem d2H:Pl.w (.l W pa)=W:=rfl
variable {fn:Func}{rs:List ResultVar}
def c3f (cb:Cb)(T:Tab)(rs:List ResultVar)(ex:Xc)(fr:List Value):M CR:=X3 ex (a3L T cb fr rs λvs=>M.pure (.ret (a7E vs))) (λ_=>M.fail) (a3L T cb fr rs λvs=>M.pure (.ret (a7E vs))) λv=>M.pure (.pan v)
theorem d7p {c:Code}{n:Nat}{args:List Value}(hc:fn.body=some c:=by rfl)(hr:fn.results.toList=rs:=by with_unfolding_all (conv=>lhs;reduce))(hn:fn.ntmps-F9 args=n:=by with_unfolding_all (conv=>lhs;reduce)):a2z p T cb false N call fn (b0l fn) pl args=O1 p T cb false N call c pl CR (I9 args (a0t n)) (c3f cb T rs):=by
 rw[<-hr,<-hn];have:b0l fn=c:=by grind[b0l]
 rw[this];rfl
theorem f_n:c3f cb T rs .normal fr=a3L T cb fr rs λvs=>M.pure (.ret (a7E vs)):=rfl
theorem f_r:c3f cb T rs .ret fr=a3L T cb fr rs λvs=>M.pure (.ret (a7E vs)):=rfl
theorem f_e {i}:c3f cb T rs (.exit i) fr=M.fail:=rfl
theorem b3Z {k:List Value->M β}:a3L T cb fr [] k=k []:=rfl
theorem b4b {t:Nat}{k:List Value->M β}:a3L T cb fr (.tmp t::rs) k=a3L T cb fr rs λvs=>k (C8 fr t::vs):=rfl
theorem c8r {x t:Nat}{k}(h:a8J T t=some none):a3L T cb fr (.cell x t::rs) k=a0G (C8 fr x) λad=>cb.bv β (M.bind (loadN ad 1) λq=>M.pure (C8 q 0)) λv=>a3L T cb fr rs λvs=>k (v::vs):=by show a0G (C8 fr x) (λad=>cb.bv β (a4E T t ad) _)=_;congr 1;funext ad;congr 1;grind[a8J,a4E,a0F]
theorem c9y {x t n:Nat}{k}(h:a8J T t=some (some n)):a3L T cb fr (.cell x t::rs) k=a0G (C8 fr x) λad=>cb.bv β (M.bind (loadN ad n) λq=>M.pure (.agg ⟨q⟩)) λv=>a3L T cb fr rs λvs=>k (v::vs):=by show a0G (C8 fr x) (λad=>cb.bv β (a4E T t ad) _)=_;congr 1;funext ad;congr 1;unfold a8J at h;cases e:T.types.get t with|none=>rw[e]at h;cases h|some i=>rw[e]at h;simp only at h;split at h;rename_i q;split at h;cases h;rename_i q2;cases h;unfold a4E;rw[a0F e,q,q2];rfl;cases h
structure Sm {α:Type} (a b:α):Prop where
 e:a=b
inductive Nf (cb:Cb):(β:Type)→M β→M β→Prop
 | bv {β:Type} {m:M Value} {k k':Value→M β}:(∀ v,Nf cb β (k v) (k' v))→Nf cb β (cb.bv β m k) (cb.bv β m k')
 | bj {β:Type} {m m':M R2} {k k':Xc→List Value→M β}:Nf cb R2 m m'→(∀ x l,Nf cb β (k x l) (k' x l))→Nf cb β (cb.bj β m k) (cb.bj β m' k')
 | lp {f f':List Value→M R2} {n:Nat} {x x':List Value}:Sm x x'→(∀ l,Nf cb R2 (f l) (f' l))→Nf cb R2 (cb.lp f n x) (cb.lp f' n x')
 | xc {β:Type} {x:Xc} {a a' c c':M β} {b b':Nat→M β} {d:Value→M β}:Nf cb β a a'→(∀ i,Nf cb β (b i) (b' i))→Nf cb β c c'→Nf cb β (X3 x a b c d) (X3 x a' b' c' d)
 | bs {β:Type} {b b':Bool} {x x' y y':M β}:Sm b b'→Nf cb β x x'→Nf cb β y y'→Nf cb β (bcase b x y) (bcase b' x' y')
 | gd {β:Type} {b:Bool} {m m':M β}:Nf cb β m m'→Nf cb β (M.guard b m) (M.guard b m')
 | pu {β:Type} {a a':β}:Sm a a'→Nf cb β (M.pure a) (M.pure a')
 | rf {β:Type} {a:M β}:Nf cb β a a
 | of {β:Type} {a b y:M β}:a=b→Nf cb β b y→Nf cb β a y
 | fu {β γ:Type} {a:M β} {m:M γ} {f f':γ→M β}:a=M.bind m f→(∀ y,Nf cb β (f y) (f' y))→Nf cb β a (M.bind m f')
 | fc {β:Type} {a:M β} {m:M CR} {f f' q:Value→M β}:a=cb.bc β m f q→(∀ y,Nf cb β (f y) (f' y))→Nf cb β a (cb.bc β m f' q)
 | fv {β:Type} {a:M β} {m:M Value} {f f':Value→M β}:a=cb.bv β m f→(∀ y,Nf cb β (f y) (f' y))→Nf cb β a (cb.bv β m f')
 | fm {β:Type} {a x y x' y':M β} {v:Value}:a=a5P v x y→Nf cb β x x'→Nf cb β y y'→Nf cb β a (a5P v x' y')
 | fp {β:Type} {a:M β} {v:Value} {f f':Addr→M β}:a=a0G v f→(∀ y,Nf cb β (f y) (f' y))→Nf cb β a (a0G v f')
 | fo {β γ:Type} {a:M β} {o:Option γ} {f f':γ→M β}:a=M.obind o f→(∀ y,Nf cb β (f y) (f' y))→Nf cb β a (M.obind o f')
theorem Nf.eq {a b}(h:Nf cb β a b):a=b:=by induction h with|bv _ ih=>rw[funext ih]|bj _ _ h ih=>rw[h,funext λx=>funext (ih x)]|lp h _ ih=>rw[funext ih,h.e]|xc _ _ _ h h1 h2=>rw[h,funext h1,h2]|bs hb _ _ h h'=>rw[hb.e,h,h']|gd _ h=>rw[h]|pu h=>rw[h.e]|rf=>rfl|of e _ h=>rw[e,h]|fu e _ h=>rw[e,funext h]|fc e _ h=>rw[e,funext h]|fv e _ h=>rw[e,funext h]|fm e _ _ h h'=>rw[e,h,h']|fp e _ h=>rw[e,funext h]|fo e _ h=>rw[e,funext h]
section
variable {y:M β}{m:M Value}{fr':List Value}{F:Value->List Value}{k':Value->M β}{vs:List Value}{v:Value}
theorem Nf.lf0 {f f' q:List Value->M R2}{n x x'}(h:∀l,f' l=q l)(hx:Sm x x')(hk:∀l,Nf cb R2 (f l) (q l)):Nf cb R2 (cb.lp f n x) (cb.lp f' n x'):=by rw[hx.e,funext h];exact .lp ⟨rfl⟩ hk
theorem Nf.lf1 {A:Type}{a}{f:List Value->M R2}{f' q:A->List Value->M R2}{n x x'}(h:∀a l,f' a l=q a l)(hx:Sm x x')(hk:∀l,Nf cb R2 (f l) (q a l)):Nf cb R2 (cb.lp f n x) (cb.lp (f' a) n x'):=.lf0 (h a) hx hk
theorem Nf.lf2 {A B:Type}{a b}{f:List Value->M R2}{f' q:A->B->List Value->M R2}{n x x'}(h:∀a b l,f' a b l=q a b l)(hx:Sm x x')(hk:∀l,Nf cb R2 (f l) (q a b l)):Nf cb R2 (cb.lp f n x) (cb.lp (f' a b) n x'):=.lf0 (h a b) hx hk
theorem Nf.lf3 {A B C:Type}{a b c}{f:List Value->M R2}{f' q:A->B->C->List Value->M R2}{n x x'}(h:∀a b c l,f' a b c l=q a b c l)(hx:Sm x x')(hk:∀l,Nf cb R2 (f l) (q a b c l)):Nf cb R2 (cb.lp f n x) (cb.lp (f' a b c) n x'):=.lf0 (h a b c) hx hk
theorem b2t {o}(h:b5f o=true)(hm:Sm (O6 p T fr o) m)(hf:∀v,Sm (a5K d fr v) (F v))(hk:∀v,Nf cb β (a0x p T cb false call os (F v) k) (k' v)):Nf cb β (a0x p T cb false call (⟨d,o,ty,pos,af,g⟩::os) fr k) (cb.bv β m k'):=.fv ((d3c h).trans (by rw[hm.e])) λv=>xz
theorem b0w {b a ts}(hm:Sm (a0L p T fr b a ts) m)(hf:∀v,Sm (a5K d fr v) (F v))(hk:∀v,Nf cb β (a0x p T cb false call os (F v) k) (k' v)):Nf cb β (a0x p T cb false call (⟨d,.call ⟨.builtin b,a,ts⟩,ty,pos,af,g⟩::os) fr k) (cb.bv β m k'):=.fv (c8O.trans (by rw[hm.e])) λv=>xz
theorem b6K {f:Nat}{a ts}(h:okL T a.toList=true)(hv:Sm (vL fr a.toList) vs)(hf:∀v,Sm (a5K d fr v) (F v))(hk:∀v,Nf cb β (a0x p T cb false call os (F v) k) (k' v)):Nf cb β (a0x p T cb false call (⟨d,.call ⟨.value (.func f),a,ts⟩,ty,pos,af,g⟩::os) fr k) (cb.bc β (call f vs) k' noP):=.fc ((e0L h).trans (by rw[hv.e])) λv=>xz
theorem b3W {t a ts}(h:okL T a.toList=true)(hw:Sm (C8 fr t) v)(hv:Sm (vL fr a.toList) vs)(hf:∀v,Sm (a5K d fr v) (F v))(hk:∀v,Nf cb β (a0x p T cb false call os (F v) k) (k' v)):Nf cb β (a0x p T cb false call (⟨d,.call ⟨.value (.tmp t),a,ts⟩,ty,pos,af,g⟩::os) fr k) (M.obind (b4B v vs) λga=>cb.bc β (call ga.1 ga.2) k' noP):=.fo ((d7g (f:=.tmp t) rfl h).trans (by rw[<-hw.e,<-hv.e];rfl)) λga=>.fc rfl λv=>xz
theorem b5W {x}(h:okO T x=true)(hv:Sm (a5K d fr (vO fr x)) fr')(hk:Nf cb β (a0x p T cb false call os fr' k) y):Nf cb β (a0x p T cb false call (⟨d,.move x,ty,pos,af,g⟩::os) fr k) y:=.of ((e1N h).trans (by rw[hv.e])) hk
theorem b1K {x}(h:okO T x=true)(hv:Sm (a5K d fr (vO fr x)) fr')(hk:Nf cb β (a0x p T cb false call os fr' k) y):Nf cb β (a0x p T cb false call (⟨d,.assign x,ty,pos,af,g⟩::os) fr k) y:=.of ((d3j h).trans (by rw[hv.e])) hk
theorem b4m {x}(h:okO T x=true)(hv:Sm (vO fr x) v):Nf cb β (a0x p T cb false call (⟨d,.panic x,ty,pos,af,g⟩::os) fr k) (M.guard (a5e v) M.fail):=.of ((d7n h).trans (by rw[hv.e])) .rf
theorem c2e {x x' y'}(h:okO T x=true)(hv:Sm (vO fr x) v)(h1:Nf cb β (O1 p T cb false N call a pl.a β fr k) x')(h2:Nf cb β (O1 p T cb false N call b pl.b β fr k) y'):Nf cb β (O1 p T cb false N call (.cond x a b) pl β fr k) (a5P v x' y'):=.fm (by show M.obind (Y0 T fr x) _=_;rw[a5k h,hv.e];rfl) h1 h2
theorem b4G {x x' y'}(h:okO T x=true)(hv:Sm (vO fr x) v)(h1:Nf cb β (O1 p T cb false N call a .d β fr k) x')(h2:Nf cb β (O1 p T cb false N call b .d β fr k) y'):Nf cb β (O1 p T cb false N call (.cond x a b) .d β fr k) (a5P v x' y'):=c2e (pl:=.d) h hv h1 h2
theorem b3P {x j x' y'}(h:okO T x=true)(hv:Sm (vO fr x) v)(h1:Nf cb β (O1 p T cb false N call a pa β fr k) x')(h2:Nf cb β (O1 p T cb false N call b pb β fr k) y'):Nf cb β (O1 p T cb false N call (.cond x a b) (.s j pa pb) β fr k) (a5P v x' y'):=c2e (pl:=.s j pa pb) h hv h1 h2
theorem b4D {x x' y'}(h:okO T x=true)(hv:Sm (vO fr x) v)(h1:Nf cb β (O1 p T cb false N call a pa β fr k) x')(h2:Nf cb β (O1 p T cb false N call b .d β fr k) y'):Nf cb β (O1 p T cb false N call (.cond x a b) (.l W pa) β fr k) (a5P v x' y'):=c2e (pl:=.l W pa) h hv h1 h2
theorem b4y {x t:Nat}{k}{k':Addr->Value->M β}(h:a8J T t=some none)(hv:Sm (C8 fr x) v)(hk:∀a w,Nf cb β (a3L T cb fr rs λvs=>k (w::vs)) (k' a w)):Nf cb β (a3L T cb fr (.cell x t::rs) k) (a0G v λa=>cb.bv β (M.bind (loadN a 1) λq=>M.pure (C8 q 0)) λw=>k' a w):=.fp ((c8r h).trans (by rw[hv.e])) λa=>.bv (hk a)
theorem b4x {x t n:Nat}{k}{k':Addr->Value->M β}(h:a8J T t=some (some n))(hv:Sm (C8 fr x) v)(hk:∀a w,Nf cb β (a3L T cb fr rs λvs=>k (w::vs)) (k' a w)):Nf cb β (a3L T cb fr (.cell x t::rs) k) (a0G v λa=>cb.bv β (M.bind (loadN a n) λq=>M.pure (.agg ⟨q⟩)) λw=>k' a w):=.fp ((c9y h).trans (by rw[hv.e])) λa=>.bv (hk a)
variable {c:Nat->List Value->M Value}{ops:List Oper}{G:List a0A}{q:List Value->List a0A->M β}{o:Op}{H:Value×a0A->List Value}{A:Value×a0A->List a0A}{f':Value×a0A->M β}
theorem b9t (hm:Sm (Z8 p T c fr o) m)(hf:∀x,Sm (a5K d fr x.1) (H x))(hA:∀x,Sm (I9 G [x.2]) (A x))(hk:∀x,Nf cb β (a2Z p T c ops os (H x) (A x) q) (f' x)):Nf cb β (a2Z p T c ops (⟨d,o,ty,pos,af,none⟩::os) fr G q) (M.bind (M.foot m) f'):=.fu (d7q.trans (by rw[hm.e])) λx=>by rw[(hf _).e,(hA _).e];exact hk x
theorem b9Q {j t:Nat}{b}(h:a4k ops j=some t)(hv:Sm (C8 fr t) v)(hm:Sm (Z8 p T c fr o) m)(hf:∀x,Sm (a5K d fr x.1) (H x))(hA:∀x,Sm (I9 G [x.2]) (A x))(hk:∀x,Nf cb β (a2Z p T c ops os (H x) (A x) q) (f' x)):Nf cb β (a2Z p T c ops (⟨d,o,ty,pos,af,some (j,b)⟩::os) fr G q) (M.bind (bcase (a1O b v) (M.foot m) (M.pure (undef,([],[])))) f'):=.fu ((d6F h).trans (by rw[hm.e,hv.e])) λx=>by rw[(hf _).e,(hA _).e];exact hk x
end
end
end Go.V
end
noncomputable section
namespace Go.V
def go {α:Type}(m:M α)(s:S):Option (α×S):=m s
def U3 {α β:Type}(x:Option (α×S))(f:α->M β):Option (β×S):=match x with|none=>none|some y=>go (f y.1) y.2
theorem M5 {α β}(m)(f:α->M β)(s):go (M.bind m f) s=U3 (go m s) f:=wm rfl rfl
theorem M9 {α β}(a s)(f:α->M β):U3 (some (a,s)) f=go (f a) s:=wm rfl rfl
theorem b2H {α β}(f:α->M β):U3 none f=none:=wm rfl rfl
theorem q9 {α β x y}(f:α->M β)(h:x=y):U3 x f=U3 y f:=by rw[h]
theorem x8 {α b b'}(x y:α)(h:b=b'):bcase b x y=bcase b' x y:=by rw[h]
theorem a1K {α}(a:α)(s):go (M.pure a) s=some (a,s):=wm rfl rfl
theorem b8e {α}(s):go (M.fail:M α) s=none:=wm rfl rfl
theorem b7x {α}(a:α)(s):go (M.lift (some a)) s=some (a,s):=wm rfl rfl
theorem J3 {β}(v)(kn kp:Value->M β):a1w (.ret v) kn kp=kn v:=wm rfl rfl
theorem a6f {β}(b)(x y:M β)(s):go (bcase b x y) s=bcase b (go x s) (go y s):=ze
theorem b7z {β}(b)(a a':β)(c h r r' w w'):bcase b (some (a,(⟨c,h,r,w⟩:S))) (some (a',⟨c,h,r',w'⟩))=some (bcase b a a',⟨c,h,bcase b r r',bcase b w w'⟩):=ze
theorem a0U {α}(b)(x:α):bcase b x x=x:=ze
theorem a7s (k n):(Value.int k n).cells.toList=[.int k n]:=wm rfl rfl
theorem a6E (b):(Value.bool b).cells.toList=[.bool b]:=wm rfl rfl
theorem a3I (s):(Value.string s).cells.toList=[.string s]:=wm rfl rfl
theorem a5E (a n e):(Value.slice a n e).cells.toList=[.slice a n e]:=wm rfl rfl
theorem a4h (a):(Value.pointer a).cells.toList=[.pointer a]:=wm rfl rfl
theorem a6r (f a b):(Value.func f a b).cells.toList=[.func f a b]:=wm rfl rfl
theorem a1I (l):(Value.agg ⟨l⟩).cells.toList=l:=wm rfl rfl
theorem a9P (k n):P8 (.int k n)=true:=wm rfl rfl
theorem a8E (b):P8 (.bool b)=true:=wm rfl rfl
theorem a5n (s):P8 (.string s)=true:=wm rfl rfl
theorem a7x (a n e):P8 (.slice a n e)=true:=wm rfl rfl
theorem a5F (a):P8 (.pointer a)=true:=wm rfl rfl
theorem a8v (f a b):P8 (.func f a b)=true:=wm rfl rfl
theorem a9l (k n):a7O (.int k (.ofNat n))=some n:=wm rfl rfl
theorem c1A (n):Nat.beq (n+1) 0=false:=wm rfl rfl
theorem c3N (n):Nat.beq 0 (n+1)=false:=wm rfl rfl
theorem c3c (n m):Nat.beq (n+1) (m+1)=Nat.beq n m:=wm rfl rfl
theorem c2I (n m):Nat.ble (n+1) (m+1)=Nat.ble n m:=wm rfl rfl
theorem c2J (n):Nat.ble (n+1) 0=false:=wm rfl rfl
theorem a0e (a b:Nat)(h:a≠b):Nat.beq a b=false:=V5 h
theorem a8x (a:Nat):Nat.ble a a=true:=uO (xD _)
def ldS {γ:Type}(lt:Bool)(ob:Option VObj)(o g n:Nat)(k:List Value->Option γ):Option γ:=match lt with
 |true=>match ob with
  |some (.cells cs _ _)=>match A7 g (F8 cs o) n with|some vs=>k vs|none=>none
  |_=>none
 |false=>none
def oS {α γ:Type}(x:Option α)(k:α->Option γ):Option γ:=match x with|some a=>k a|none=>none
theorem a1L {α γ}(a)(k:α->Option γ):oS (some a) k=k a:=wm rfl rfl
theorem D5 {α γ x y}(k:α->Option γ)(h:x=y):oS x k=oS y k:=by rw[h]
theorem Z5 {γ}(cs cur ro o g n)(k:List Value->Option γ):ldS true (some (.cells cs cur ro)) o g n k=oS (A7 g (F8 cs o) n) k:=by grind[ldS,oS]
theorem A8 {γ lt lt' ob ob'}(o g n)(k:List Value->Option γ)(h1:lt=lt')(h2:ob=ob'):ldS lt ob o g n k=ldS lt' ob' o g n k:=by rw[h1,h2]
section
variable (c:Nat)(h:Trie VObj)(r w:List Nat)
theorem a2q (b o g n):go (loadN ⟨b,o,some g⟩ n) ⟨c,h,r,w⟩=ldS (Nat.blt b c) (h.get b) o g n λvs=>some (vs,⟨c,h,b::r,w⟩):=by unfold go loadN ldS;simp only[G7,V.M.bind,rd];cases Nat.blt b c with|false=>rfl|true=>cases h.get b with|none=>rfl|some ob=>cases ob with|cells cs cur ro=>simp only[a6Y,M.lift];cases A7 g (F8 cs o) n<;>rfl|_=>rfl
theorem c4B {γ δ}(lt ob o g n k)(f:Option γ->Option δ)(hf:f none=none):f (ldS lt ob o g n k)=ldS lt ob o g n λvs=>f (k vs):=by unfold ldS;grind
theorem a1s (b o g):go (a6U (.pointer (some ⟨b,o,some g⟩))) ⟨c,h,r,w⟩=ldS (Nat.blt b c) (h.get b) o g 1 λvs=>some (C8 vs 0,⟨c,h,b::r,w⟩):=by unfold a6U;rw[a2T,M5,a2q];exact c4B _ _ _ _ _ _ (λx=>U3 x λvs=>M.pure (C8 vs 0)) rfl
theorem a4R (n b o g):go (b1g n (.pointer (some ⟨b,o,some g⟩))) ⟨c,h,r,w⟩=ldS (Nat.blt b c) (h.get b) o g n λvs=>some (.agg ⟨vs⟩,⟨c,h,b::r,w⟩):=by unfold b1g;rw[a2T,M5,a2q];exact c4B _ _ _ _ _ _ (λx=>U3 x λvs=>M.pure (Value.agg ⟨vs⟩)) rfl
def stS {γ:Type}(lt:Bool)(ob:Option VObj)(o g:Nat)(vs:List Value)(k:List (Value×Nat)->Nat->Bool->Option γ):Option γ:=match lt with
 |true=>match ob with
  |some (.cells cs cur ro)=>match Nat.beq g cur&& !ro&&M0 P8 vs&&Nat.ble (o+F9 vs) (F9 cs)with
   |true=>match a2c g vs cs o with|some cs'=>k cs' cur ro|none=>none
   |false=>none
  |_=>none
 |false=>none
theorem a3w {γ}(cs)(cur:Nat)(ro)(o g:Nat)(vs)(k:List (Value×Nat)->Nat->Bool->Option γ)(e:(Nat.beq g cur&& !ro&&M0 P8 vs&&Nat.ble (o+F9 vs) (F9 cs))=true):stS true (some (.cells cs cur ro)) o g vs k=oS (a2c g vs cs o) λcs'=>k cs' cur ro:=by grind[stS,oS]
theorem z8 {γ lt lt' ob ob'}(o g vs)(k:List (Value×Nat)->Nat->Bool->Option γ)(h1:lt=lt')(h2:ob=ob'):stS lt ob o g vs k=stS lt' ob' o g vs k:=by rw[h1,h2]
theorem c9F (b o g vs):go (storeN ⟨b,o,some g⟩ vs) ⟨c,h,r,w⟩=stS (Nat.blt b c) (h.get b) o g vs λcs' cur ro=>some ((),⟨c,upd h b (.cells cs' cur ro),b::r,b::w⟩):=by
 unfold storeN stS;simp only[G7];rw[M5];show U3 (rd b ⟨c,h,r,w⟩) _=_;rw[b5M];cases hb:Nat.blt b c with
  |false=>rfl|true=>
   cases ho:h.get b with
    |none=>rfl|some ob=>
     cases ob with
      |cells cs cur ro=>simp only[M9,a6Y];cases Nat.beq g cur&& !ro&&M0 P8 vs&&Nat.ble (o+F9 vs) (F9 cs)with|false=>rfl|true=>simp only[V4];cases a2c g vs cs o with|none=>rfl|some cs'=>simp only[G7,a0g];show wr b _ _=_;rw[b2U,hb,ho]
      |_=>rfl
theorem a2g (n b o g:Nat)(v)(e2:(!(Nat.beq n 0)&&Nat.beq (F9 v.cells.toList) n)=true):go (a6o n (.pointer (some ⟨b,o,some g⟩)) v) ⟨c,h,r,w⟩=stS (Nat.blt b c) (h.get b) o g v.cells.toList λcs' cur ro=>some (undef,⟨c,upd h b (.cells cs' cur ro),b::r,b::w⟩):=by
 unfold a6o;rw[a2T,M5,e2,V4,c9F];generalize v.cells.toList=l;unfold stS;cases Nat.blt b c with
  |false=>rfl|true=>
   cases h.get b with
    |none=>rfl|some ob=>
     cases ob with
      |cells cs cur ro=>simp only;cases Nat.beq g cur&& !ro&&M0 P8 l&&Nat.ble (o+F9 l) (F9 cs)with|false=>rfl|true=>simp only;cases a2c g l cs o<;>rfl
      |_=>rfl
theorem a2I (vs)(e:M0 P8 vs=true):go (a0b vs) ⟨c,h,r,w⟩=some (⟨c,0,some 0⟩,⟨c+1,upd h c (.cells (J7 (λv=>(v,0)) vs) 0 false),r,c::w⟩):=by unfold a0b;rw[e,V4,a0g,M5];show U3 (new _ _) _=_;rw[c5C];rfl
theorem a5p (zs)(e:M0 P8 zs=true):go (b5j zs) ⟨c,h,r,w⟩=some (.pointer (some ⟨c,0,some 0⟩),⟨c+1,upd h c (.cells (J7 (λv=>(v,0)) zs) 0 false),r,c::w⟩):=by unfold b5j;rw[M5,a2I c h r w zs e];rfl
theorem e0A (v l)(hv:v.cells.toList=l)(e:(M0 P8 l&& !(a2A l))=true):go (a7m v) ⟨c,h,r,w⟩=some (.pointer (some ⟨c,0,some 0⟩),⟨c+1,upd h c (.cells (J7 (λv=>(v,0)) l) 0 false),r,c::w⟩):=by rw[wh]at e;unfold a7m;rw[hv,e.2,V4,M5,a2I c h r w l e.1];rfl
theorem a1n (l)(e:(M0 P8 l&& !(a2A l))=true):go (a7m (.agg ⟨l⟩)) ⟨c,h,r,w⟩=some (.pointer (some ⟨c,0,some 0⟩),⟨c+1,upd h c (.cells (J7 (λv=>(v,0)) l) 0 false),r,c::w⟩):=e0A c h r w _ l rfl e
theorem a6J (n len os vs zs):go (a9X n len os vs zs) ⟨c,h,r,w⟩=oS (a5l os vs zs) λcs=>bcase (M0 P8 cs) (some (.slice (some ⟨c,0,some 0⟩) len n,⟨c+1,upd h c (.cells (J7 (λv=>(v,0)) cs) 0 false),r,c::w⟩)) none:=by unfold a9X;cases a5l os vs zs with|none=>rfl|some cs=>rw[G7,M5,a1L];cases e:M0 P8 cs with|true=>rw[a2I c h r w cs e];rfl|false=>show Go.V.U3 (a0b cs ⟨c,h,r,w⟩) _=none;unfold a0b;rw[e];rfl
end
theorem b0M (os vs zs):a8R os vs zs=M.obind (a5l os vs zs) λcs=>M.pure (.agg ⟨cs⟩):=wm rfl rfl
theorem a9h (vs zs):a5l [] vs zs=some zs:=by cases vs<;>rfl
theorem a9E (q os v vs zs)(e:(Nat.beq (F9 v.cells.toList) q.2&&Nat.ble (q.1+q.2) (F9 zs))=true):a5l (q::os) (v::vs) zs=a5l os vs (a2O v.cells.toList zs q.1):=by show(match Nat.beq (F9 v.cells.toList) q.2&&Nat.ble (q.1+q.2) (F9 zs)with|true=>a5l os vs (a2O v.cells.toList zs q.1)|false=>none)=_;rw[e]
theorem b2D (vs c cs):a2O vs (c::cs) 0=a5W vs (c::cs):=wm rfl rfl
theorem b1Q (vs c cs n):a2O vs (c::cs) (n+1)=c::a2O vs cs n:=wm rfl rfl
theorem a7T (cs):a5W [] cs=cs:=wm rfl rfl
theorem a6Z (v vs c cs):a5W (v::vs) (c::cs)=v::a5W vs cs:=wm rfl rfl
theorem a3B (off b o g):xFA off (.pointer (some ⟨b,o,g⟩))=M.pure (.pointer (some ⟨b,o+off,g⟩)):=wm rfl rfl
theorem b5i (a):e1i (.pointer (some a))=M.pure (.pointer (some a)):=wm rfl rfl
theorem U7 (a n e):b1Z (.slice a n e)=M.pure (.int .i64 (.ofNat n)):=wm rfl rfl
theorem c1S (l off n):xFN off n (.agg ⟨l⟩)=M.pure (.agg ⟨a2i (F8 l off) n⟩):=wm rfl rfl
theorem b5y (fn va vb):d5w fn va vb=M.pure (.func fn ⟨va⟩ ⟨vb⟩):=wm rfl rfl
theorem a1t (k k' n):c2Z k (.int k' n)=M.pure (.int k (N8 k n)):=wm rfl rfl
theorem a1d (n i len k b o g)(e:i<len)(e2:n≠0):a7l n (.slice (some ⟨b,o,g⟩) len n) (.int k (.ofNat i))=M.pure (.pointer (some ⟨b,o+i*n,g⟩)):=by unfold a7l elemAtN;simp only[a9l,G7,J4,V4,L8 e,V5 e2];rfl
theorem c8s (x y)(e:F9 x+F9 y<a7M):b3R .add x y=some (.string ⟨⟨I9 x y⟩⟩):=by show(match Nat.blt (F9 x+F9 y) a7M with|true=>fList (I9 x y) λl=>some (Value.string ⟨⟨l⟩⟩)|false=>none)=_;rw[L8 e];simp only[a0g]
section
variable (p:Program)(T:Tab)
theorem a4S (t x y s s'):a0J p T .eql t x y (.string s) (.string s')=M.pure (.bool (beqBytes s.data.toList s'.data.toList)):=wm rfl rfl
theorem R8 (t x y s s'):a0J p T .neq t x y (.string s) (.string s')=M.pure (.bool (!(beqBytes s.data.toList s'.data.toList))):=wm rfl rfl
theorem b3j (t x y s s')(e:F9 s.data.toList+F9 s'.data.toList<4294967296):a0J p T .add t x y (.string s) (.string s')=M.pure (.string ⟨⟨I9 s.data.toList s'.data.toList⟩⟩):=by show M.lift (b3R .add s.data.toList s'.data.toList)=_;rw[c8s _ _ e];rfl
end
end Go.V
namespace Go.V
theorem a3y {α}(l:List α)(a b):F8 l (a+b)=F8 (F8 l a) b:=by rw[a0O,a0O,a0O,pI]
theorem a0C {σ}(body:σ->M (Xc×σ))(n x s):go (Q5 body (n+1) x) s=U3 (go (body x) s) λr=>X3 r.1 (Q5 body n r.2) (λid=>M.pure (.exit id,r.2)) (M.pure (.ret,r.2)) (λv=>M.pure (.pan v,r.2)):=wm rfl rfl
theorem l9.cases {α b}{x y:Option (α×S)}{Q}(h1:b=true->l9 x Q)(h2:b=false->l9 y Q):l9 (bcase b x y) Q:=by cases b with|true=>exact h1 rfl|false=>exact h2 rfl
theorem l9.bindS {α β:Type}{x:Option (α×S)}{f:α->M β}{P:α->S->Prop}{Q:β->S->Prop}(h:l9 x P)(k:∀a s',P a s'->l9 (go (f a) s') Q):l9 (U3 x f) Q:=by obtain⟨a,s',rfl,p⟩:=h;exact k a s' p
theorem l9.done {α}{a:α}{s Q}(h:Q a s):l9 (Option.some (a,s)) Q:=⟨a,s,rfl,h⟩
theorem c3T {α β}(b x y)(f:α->M β):U3 (bcase b x y) f=bcase b (U3 x f) (U3 y f):=ze
theorem a1o:(!true)=false:=rfl
theorem a0K:(!false)=true:=rfl
theorem a9o (b:Bool):(b&&b)=b:=uk b
theorem a7i (b:Bool):(true&&b)=b:=vE b
theorem a4G (b:Bool):(b&&true)=b:=uC b
theorem a5f (n:Nat):0+n=n:=wM n
end Go.V
end
section
namespace Go.V
section
variable {P:Program}
theorem a2Y {α β:Type}(x:Sem α)(f:α->Sem β):a0H P (x>>=f)=match a0H P x with|some a=>a0H P (f a)|none=>none:=by show a0H P (x.bind f)=_;induction x with|pure a=>rfl|program k ih=>exact ih P|mark m k ih=>exact ih|_=>rfl
theorem b1v {α}(a):a0H P (pure a:Sem α)=some a:=rfl
theorem b1M:a0H P program=some P:=rfl
theorem a9r {t d}(h:P.underlying t=some d):a0H P (underlying t)=some d:=by unfold underlying;rw[a2Y,b1M];simp only[h];rfl
theorem c5c {t k}(h:P.underlying t=some (.int k))(cs off v)(hv:cs[off]?=some v):a0H P (part t cs off)=some v:=by grind[part,isAgg,a2Y,a9r,b1v]
theorem d2Q (d){t k' k}(h:P.underlying t=some (.int k'))(a b):a0H P (Op.equalIn (d+1) t (.int k a) (.int k b))=some (a==b):=by unfold Op.equalIn;rw[a2Y,a9r h];simp;rfl
def a7z (P:Program):List Field->Nat->List Int->List Int->List Value->List Value->Prop|[],_,[],[],_,_=>True|f::fs,o,a::aS9,b::bs,xs,ys=>f.name≠ "_"/\f.offset=o/\(∃k',P.underlying f.type=some (.int k'))/\(∃k,xs[o]?=some (.int k a)/\ys[o]?=some (.int k b))/\a7z P fs (o+1) aS9 bs xs ys|_,_,_,_,_,_=>False
def a7Z:List Int->List Int->Bool|a::aS9,b::bs=>decide (a=b)&&a7Z aS9 bs|_,_=>true
theorem c4i (d){t fs}(ht:P.underlying t=some (.struct fs))(hp:P.stoodInHeld t=false)(xs ys aS9 bs)(h:a7z P fs.toList 0 aS9 bs xs ys):a0H P (Op.equalIn (d+2) t (.agg ⟨xs⟩) (.agg ⟨ys⟩))=some (a7Z aS9 bs):=by
 unfold Op.equalIn;rw[a2Y,a9r ht];simp only[];rw[a2Y,b1M];simp only[hp,vS,uS];rw[a2Y,<-Array.forIn_toList];generalize fs.toList=l at h⊢;clear ht;revert h;generalize 0=o;induction l generalizing o aS9 bs with
  |nil=>grind[b1v,a7Z,a7z]|cons f l ih=>
   intro h;cases aS9 with
    |nil=>grind[a7z]|cons a aS9=>
     cases bs with
      |nil=>grind[a7z]|cons b bs=>
       obtain⟨h1,rfl,⟨k',h3⟩,⟨k,h4,h5⟩,h6⟩:=h;have i1:=ih aS9 bs _ h6;rw[List.forIn_cons,a2Y,vX h1,a2Y,c5c h3 ⟨xs⟩ f.offset _ (by simpa using h4)];simp only[a2Y,c5c h3 ⟨ys⟩ f.offset _ (by simpa using h5),d2Q d h3];by_cases hab:a=b;have e:(!a==b)=false:=by simp[hab]
       rw[vg (by rw[e];decide)];simp only[b1v];rw[i1];show some (a7Z aS9 bs)=some (decide (a=b)&&a7Z aS9 bs);rw[ww hab,vE];have e:(!a==b)=true:=by simp[hab]
       rw[vX e];simp only[b1v];show some false=some (decide (a=b)&&a7Z aS9 bs);rw[wy hab,uf]
theorem b8c (op t x y xs ys)(hm:P.eqGuardType P.depth t=false):a0H P (eqGuard op t x y (.agg xs) (.agg ys))=some ():=by cases op<;>simp only[eqGuard,uy,sK,vS,rQ,uS,b1v,a2Y,b1M,hm]<;>rfl
theorem c4l {T op}(hop:op=.eql\/op=.neq){t x y fs}(ht:P.underlying t=some (.struct fs))(hp:P.stoodInHeld t=false)(hm:P.eqGuardType P.depth t=false){xs ys}{aS9 bs}(h:a7z P fs.toList 0 aS9 bs xs ys)(hx:M7 8 (.agg ⟨xs⟩)=true)(hy:M7 8 (.agg ⟨ys⟩)=true)(hT:∀d,T.types.get t=some d->d.und=.struct fs):a0J P T op t x y (.agg ⟨xs⟩) (.agg ⟨ys⟩)=M.pure (.bool (b5q op (a7Z aS9 bs))):=by
 have hn:b1j T op t x y (.agg ⟨xs⟩) (.agg ⟨ys⟩)=none:=by unfold b1j;cases d1L op&&(isConstO x||isConstO y)with|false=>rfl|true=>cases hd:T.types.get t with|none=>rfl|some d=>simp only[hT d hd];rfl
 have e:=c4i (P:=P) 9998 ht hp xs ys aS9 bs h;show a9s P T op t x y (.agg ⟨xs⟩) (.agg ⟨ys⟩)=_;unfold a9s;rw[hn];simp only[hx,hy,uk,V4];have k:a0H P (do eqGuard op t x y (.agg ⟨xs⟩) (.agg ⟨ys⟩);binOp op t (.agg ⟨xs⟩) (.agg ⟨ys⟩))=some (.bool (b5q op (a7Z aS9 bs))):=by rw[a2Y,b8c _ _ _ _ _ _ hm];rcases hop with rfl|rfl;simp only[binOp,Op.equal,Op.maxDepth];rw[a2Y];rw[show(10000:Nat)=9998+2 from rfl,e];rfl;simp only[binOp,Op.equal,Op.maxDepth];rw[a2Y];rw[show(10000:Nat)=9998+2 from rfl,e];rfl
 rw[k];rfl
end
end Go.V
end
noncomputable section
namespace Go.V
open Go.RowKit (Below)
section
variable {P:Program}{T:Tab}{vs:a2C}
theorem c3u {f:Nat}{g:List Value->Option Value}(hg:∀aS9 v,g aS9=some v->M0 (M7 8) aS9=true/\M7 8 v=true/\∀w,(callFunc f aS9.toArray).run P w=.ok (.value v) w):V6 P T vs f (λaS9=>M.lift (g aS9)):=by refine⟨λaS9=>Fr.lift _,?_⟩;intro B0 w0 hL hB aS9 s v s' w K as' h S hG F has;obtain⟨e1,rfl⟩:=a5a h;obtain⟨g1,g2,g3⟩:=hg aS9 v e1;rw[a9p has g1];exact Or.inl ⟨v,w,K,g3 w,Step.same S rfl,a0S 8 v g2⟩
end
def b2R (bs:List Value):Option Value:=match bs with
 |[.int .u64 (.ofNat x),.int .u64 (.ofNat y),.int .u64 (.ofNat c)]=>match Nat.ble c 1 with|true=>some (.tuple ⟨[.int .u64 (.ofNat (Nat.mod (Nat.add (Nat.add x y) c) 18446744073709551616)),.int .u64 (.ofNat (Nat.div (Nat.add (Nat.add x y) c) 18446744073709551616))]⟩)|false=>none
 |_=>none
end Go.V
end
section
namespace Go.V
open Go.RowKit (Below)
section
variable {P:Program}{T:Tab}{vs:a2C}
noncomputable def a8Q (cs:List Value)(n e:Nat)(aS9:List Value):M Value:=match aS9 with|[]=>M.bind (a0b cs) λa=>M.pure (.slice (some a) n e)|_::_=>M.fail
theorem c1U (hT:TabOk P T)(hM:P.follows .mixedOrders=true)(hng:T.ng<=vs.length)(hp:∀l∈vs,∀v∈l,plain v=true){ext}(hE:a2X P T vs ext){N}{sh}(hs:a8h P T ext N sh){k f}{fn}{c}{s2}{b2 g2 n e cur}{cs}(hPf:P.funcs[f]?=some fn)(hnum:(fn.name== "runtime.NumGoroutine")=false)(hb:fn.body=some c)(h:o8 sh k f [] (a3a vs)=some (.ret (.slice (some ⟨b2,0,some g2⟩) n e),s2))(hcs:s2.h.get b2=some (.cells cs cur false))(hpl:M0 (λx=>plain x.1&&Nat.ble x.2 g2) cs=true):V6 P T vs f (a8Q (J7 (·.1) cs) n e):=by
 refine⟨λaS9=>?_,?_⟩;cases aS9 with|nil=>show Fr (M.bind (a0b (J7 (·.1) cs)) λa=>M.pure (Value.slice (some a) n e));grind[Fr.bind,Fr.newCells,Fr.pure]|cons a aS9=>exact Fr.fail
 intro B0 w0 hL hB aS9 s v s1 w K as' hg S hG F has;cases aS9 with
  |cons a aS9=>cases hg|nil=>
   have hg':M.bind (a0b (J7 (·.1) cs)) (λa=>M.pure (Value.slice (some a) n e)) s=some (v,s1):=hg;obtain⟨a,s1',q1,q2⟩:=E8 hg';obtain⟨rfl,rfl⟩:=y8 q2;have e0:as'=[]:=vI.1 (by rw[has.len];rfl);subst e0;have hLw:=hL.below S.below hB;have hE':=hE w.heap.size ⟨w,λ_=>True⟩ hLw hLw.size;refine Or.inr ⟨a0c hPf hnum hb,?_⟩;rcases b0H hT hM hE' hs k f [] (a3a vs) _ s2 w (a6b vs) [] h (b0t (λ_ _=>trivial) (λ_ _=>trivial) hLw hp) (b2n hng) (λi hi _=>by rw[a1H];have:vs.length<=i:=yG;rw[wT this]) (VRL.nil _)with⟨v1,v',w',K',_,q1,_⟩|⟨_,q⟩;rw[a0c hPf hnum hb]at q1;cases q1;refine q.mono λe1 w' hq=>?_;obtain⟨v',K2,e2,st,r⟩:=hq;refine⟨v',?_⟩;obtain⟨h1,h2,h3,h4⟩:=b2T q1;generalize hz:Value.slice (some ⟨b2,0,some g2⟩) n e=z at r;cases r with
    |plain hpp=>grind[V.plain]|slice hk l1 l2 l3 l4 l5=>
     cases hz;rename_i l a';have hown:l.own=true:=((st.sim.gens b2 cs cur false hcs).1 g2 l hk).2 rfl;have hblk:=st.sim.own b2 g2 l hk hown;have hlo:l.lo=0:=qb.1 l1;have G:Grew w w':=⟨st.sim.below.os,st.sim.below.tape,st.sim.below.output,st.sim.below.size,st.sim.below.block⟩;have hK:∀g,K s.c g=none:=S.none (F s.c (xD _) zy);have hsz:B0<=w.heap.size:=wL S.size0.1 S.below.size;refine⟨K.put s.c 0 l,e2,⟨KM.le_put K _ (hK 0),λi g hi=>KM.put_other K _ (λq=>zy),?_⟩,?_⟩;refine b7Y (o:=.cells ((J7 (·.1) cs).map λv=>(v,0)) 0 false) (a5Y S G) hK h4 (st.sim.dom b2 g2 l hk) (wL hsz hblk) hown (λb g l' q=>by have:=S.dom b g l' q;omega) ?_ (λes q=>zb) (λx pos q=>zb);intro cs' cur' ro' q;cases q;refine⟨rfl,rfl,λx hx=>?_,hlo,?_,?_⟩;grind;exact st.sim.room b2 g2 l cs cur false hk hown hcs;intro off v0 st0 q;rw[a1z,tX,wE]at q;cases hvo:cs[off]? with|none=>rw[hvo]at q;cases q|some y=>rw[hvo]at q;cases q;have hy:=(R5 _ _).1 hpl y (wG hvo);rw[wh]at hy;obtain⟨v1,c1,c2⟩:=st.sim.cells b2 cs cur false g2 l hcs hk off y.1 y.2 hvo (wJ hy.2) zy;rw[c2.eq_of_plain hy.1]at c1;exact⟨y.1,by rw[hlo]at c1;exact c1,.plain hy.1⟩
     rw[h2];exact VR.slice (KM.put_same _ _ _ _) l1 l2 l3 l4 l5|_=>cases hz
theorem c3P {c m}:∀(n) (v),M7 n v=true->VRen c m v v:=by
 intro n;induction n with
  |zero=>intro v h;cases h|succ n ih=>
   intro v h;have key:∀l:List Value,M0 (M7 n) l=true->∀(i:Nat) (v w:Value),l[i]?=some v->l[i]?=some w->VRen c m v w:=λl hl i v w h1 h2=>by rw[h1]at h2;grind[R5]
   cases v with|agg cs=>exact .agg rfl (key _ h)|tuple cs=>exact .tuple rfl (key _ h)|iface t v=>exact .iface (ih v h)|_=>exact .plain h
theorem b0I (hT:TabOk P T)(hM:P.follows .mixedOrders=true){ext}(hE:a2X P T vs ext){N}{sh}(hs:a8h P T ext N sh){f}{fn}{cd}(hPf:P.funcs[f]?=some fn)(hnum:(fn.name== "runtime.NumGoroutine")=false)(hb:fn.body=some cd){g}(hFr:∀aS9,Fr (g aS9))(h:∀aS9 s v s1,g aS9 s=some (v,s1)->M7 8 v=true/\s1.c=s.c/\s1.h=s.h/\∀c,s.c<=c->∃n,l9 (go (o8 sh n f aS9) ⟨c,s.h,s.r,s.w⟩) λx s2=>x=.ret v/\∀i,i<c->s2.h.get i=s.h.get i):V6 P T vs f g:=by refine c4e hT hM hE hs hPf hnum hb hFr λaS9 s v s1 hg c' h1 h2 h3=>?_;obtain⟨q1,q2,q3,q4⟩:=h aS9 s v s1 hg;obtain⟨n,x,s2,e,rfl,hold⟩:=q4 c' h1;refine⟨n,v,s2,λ_=>none,e,⟨λi hi=>Or.inr ⟨by rw[q3],hold i hi.1⟩,λb b2 g2 hm=>(by cases hm),λb hb _=>?_,λb b' x x' hm=>(by cases hm)⟩,c3P 8 v q1,λi h1 h2=>hold i h2⟩;rw[q3];refine h3 b (Nat.le_of_not_lt λhlt=>hb ⟨hlt,λhx=>zy⟩)
theorem a2n (hT:TabOk P T)(hM:P.follows .mixedOrders=true){ext}(hE:a2X P T vs ext){N}{sh}(hs:a8h P T ext N sh){f}{fn}{cd}(hPf:P.funcs[f]?=some fn)(hnum:(fn.name== "runtime.NumGoroutine")=false)(hb:fn.body=some cd){g:List Value->Option Value}(h:∀aS9 v,g aS9=some v->M7 8 v=true/\∀c h r w,∃n,l9 (go (o8 sh n f aS9) ⟨c,h,r,w⟩) λx s2=>x=.ret v/\∀i,i<c->s2.h.get i=h.get i):V6 P T vs f (λaS9=>M.lift (g aS9)):=by refine b0I hT hM hE hs hPf hnum hb (λaS9=>Fr.lift _) λaS9 s v s1 hg=>?_;obtain⟨e,rfl⟩:=a5a hg;obtain⟨q1,q2⟩:=h aS9 v e;simp_all
theorem a9u {f}{g:List Value->Option Value}(h:∀aS9 v,g aS9=some v->M0 (M7 8) aS9=true/\M7 8 v=true/\a6Q P vs f aS9 v):V6 P T vs f (λaS9=>M.lift (g aS9)):=by refine⟨λ_=>Fr.lift _,?_⟩;intro B0 w0 hL hB aS9 s v s' w K as' hg S hG F has;obtain⟨e1,e2⟩:=a5a hg;obtain⟨t1,t2,t3⟩:=h aS9 v e1;rw[a9p has t1];obtain⟨c1,c2⟩:=t3 w (hL.below S.below hB);refine Or.inr ⟨c1,c2.mono λe w' ⟨q1,q2⟩=>⟨v,K,q1,⟨KM.le_refl K,λ_ _ _=>rfl,?_⟩,a0S 8 v t2⟩⟩;subst e2;exact a5Y S ⟨q2.os,q2.tape,q2.output,q2.size,q2.block⟩
noncomputable def R4 (sh:a1r)(f:Nat)(g:List Value->M Value):a1r:=Trie.put (some (arX g)) (f+1) sh f
theorem c8p (sh f g i):(R4 sh f g).get i=if i=f then some (arX g)else sh.get i:=Trie.get_put _ _ _ _ (wu _) _
theorem d3h {ext N sh}(hs:a8h P T ext N sh)(f g):a8h P T (J8 ext f g) N (R4 sh f g):=by
 intro i q hi;rw[c8p]at hi;by_cases hif:i=f;subst hif;rw[vX rfl]at hi;cases hi;exact d4c (by unfold J8;rw[J4]);rw[vg hif]at hi;have h0:=hs i q hi;have e:J8 ext f g i=ext i:=by grind[J8,V5]
 grind[atF]
structure Shelf' (P:Program) (T:Tab) (vs:a2C) (N:Nat) (ext:Nat→Option (List Value→M Value)) (sh:a1r):Prop where
 e:a2X P T vs ext
 s:a8h P T ext N sh
theorem Shelf'.add {N ext sh}(L:Shelf' P T vs N ext sh){f g}(hg:V6 P T vs f g):Shelf' P T vs N (J8 ext f g) (R4 sh f g):=⟨a9K L.e hg,d3h L.s f g⟩
theorem a3s (sh n f aS9){q}(h:sh.get f=some q):o8 sh (n+1) f aS9=q (o8 sh n) aS9:=by grind[M.obind,o8]
theorem a9k (sh n f aS9){g}(h:sh.get f=some (arX g)):o8 sh (n+1) f aS9=M.bind (g aS9) λv=>M.pure (.ret v):=a3s sh n f aS9 h
theorem a0o (sh n f aS9){g:List Value->Option Value}{v}(h:sh.get f=some (arX λaS9=>M.lift (g aS9)))(e:g aS9=some v):o8 sh (n+1) f aS9=M.pure (.ret v):=by rw[a9k sh n f aS9 h,e];rfl
end
end Go.V
end
