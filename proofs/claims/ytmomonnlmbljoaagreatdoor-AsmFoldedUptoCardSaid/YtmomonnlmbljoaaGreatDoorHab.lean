import Derived.Test.YtmomonnlmbljoaaGreatDoorHaa
set_option maxRecDepth 1000000
set_option maxHeartbeats 4000000
set_option linter.unusedVariables false
set_option linter.unusedSimpArgs false
section
namespace Go.V
section
variable (p:Program)(T:Tab)
theorem Fr.asCells {α:Type}(o:VObj){k:List (Value×Nat)->Nat->Bool->M α}(h:∀a b c,Fr (k a b c)):Fr (a5h o k):=by cases o<;>first|exact h _ _ _|exact Fr.fail
theorem Fr.asMap {α:Type}(o:VObj){k:List (Value×Value)->M α}(h:∀a,Fr (k a)):Fr (c4U o k):=by cases o<;>first|exact h _|exact Fr.fail
theorem Fr.asPtr {α:Type}(v:Value){k:Addr->M α}(h:∀a,Fr (k a)):Fr (R5 v k):=by cases v<;>first|exact Fr.obind _ h|exact Fr.fail
theorem Fr.ti {α:Type}(t:TypeId){k:TI->M α}(h:∀a,Fr (k a)):Fr (ti T t k):=Fr.obind _ h
theorem Fr.ev (fr:List Value)(x:Operand){k:Value->M Value}(h:∀a,Fr (k a)):Fr (ev T fr x k):=Fr.obind _ h
theorem Fr.evs (fr:List Value)(x:List Operand){k:List Value->M Value}(h:∀a,Fr (k a)):Fr (evs T fr x k):=Fr.obind _ h
theorem Fr.fList {β α:Type}(l:List β){k:List β->M α}(h:∀a,Fr (k a)):Fr (fList l k):=by rw[M4];exact h l
theorem Fr.fNat {α:Type}(l:Nat){k:Nat->M α}(h:∀a,Fr (k a)):Fr (a6t l k):=by rw[a0C];exact h l
theorem Fr.fVal {α:Type}(v:Value){k:Value->M α}(h:∀a,Fr (k a)):Fr (a5X v k):=by rw[a6b];exact h v
theorem Fr.pureV (o:Option Value):Fr (pureV o):=Fr.obind _ λ_=>Fr.guard _ (Fr.pure _)
theorem Fr.loadN (a:Addr)(n:Nat):Fr (loadN a n):=Fr.obind _ λ_=>Fr.bind (Fr.rd _) λ_=>Fr.asCells _ λ_ _ _=>Fr.lift _
theorem Fr.storeN (a:Addr)(vs:List Value):Fr (storeN a vs):=Fr.obind _ λ_=>Fr.bind (Fr.rd _) λ_=>Fr.asCells _ λ_ _ _=>Fr.guard _ (Fr.obind _ λ_=>Fr.fList _ λ_=>Fr.wr _ _)
theorem Fr.newCells (vs:List Value):Fr (M5 vs):=Fr.guard _ (Fr.fList _ λ_=>Fr.bind (Fr.new _) λ_=>Fr.pure _)
theorem Fr.loadV (t:TypeId)(a:Addr):Fr (a2F T t a):=Fr.ti T _ λi=>by grind[Fr.guard,Fr.bind,Fr.loadN,Fr.pure]
theorem Fr.storeV (t:TypeId)(a:Addr)(v:Value):Fr (b3O T t a v):=Fr.ti T _ λ_=>Fr.guard _ (Fr.storeN _ _)
theorem Fr.elemAt (a:Addr)(i len elem:Nat):Fr (elemAt T a i len elem):=Fr.ti T _ λ_=>Fr.guard _ (Fr.pure _)
theorem Fr.indexAddrV (t:TypeId)(x ix:Value):Fr (a7v T t x ix):=Fr.ti T _ λi=>Fr.obind _ λj=>by grind[Fr.asPtr,Fr.elemAt,Fr.obind,Fr.ti,Fr.guard,Fr.fail]
theorem Fr.fieldAddrV (t:TypeId)(x:Value)(f:Nat):Fr (b0e T t x f):=Fr.ti T _ λi=>by grind[Fr.asPtr,Fr.obind,Fr.ti,Fr.guard,Fr.pure,Fr.fail]
theorem Fr.cut (a:Addr)(len elem:Nat)(lo hi:Option Value):Fr (cut T a len elem lo hi):=Fr.ti T _ λ_=>Fr.obind _ λ_=>Fr.obind _ λ_=>Fr.guard _ (Fr.pure _)
theorem Fr.cutStr (s:ByteArray)(lo hi:Option Value):Fr (a5Y s lo hi):=Fr.obind _ λ_=>Fr.obind _ λ_=>Fr.guard _ (by rw[M4];exact Fr.pure _)
theorem Fr.cutNil (lo hi:Option Value):Fr (cutNil lo hi):=Fr.obind _ λ_=>Fr.obind _ λ_=>Fr.guard _ (Fr.pure _)
theorem Fr.sliceV (t:TypeId)(x:Value)(lo hi mx:Option Value):Fr (b0R T t x lo hi mx):=Fr.ti T _ λi=>Fr.guard _ (by split;grind[Fr.cutStr,Fr.fail];grind[Fr.ti,Fr.guard,Fr.cut,Fr.cutNil,Fr.fail];grind[Fr.asPtr,Fr.ti,Fr.bind,Fr.loadN,Fr.cut];exact Fr.fail)
theorem Fr.makeSliceV (t:TypeId)(l c:Value):Fr (a9E T t l c):=Fr.ti T _ λi=>by grind[Fr.ti,Fr.obind,Fr.guard,Fr.bind,Fr.newCells,Fr.pure,Fr.fail]
theorem Fr.source (n:Nat)(x:Value):Fr (a6U n x):=by unfold V.a6U;grind[Fr.guard,Fr.pure,Fr.loadN,Fr.fail]
theorem Fr.appendAt (e:TI)(a:Addr)(len:Nat)(vs:List Value)(m:Nat):Fr (appendAt e a len vs m):=Fr.obind _ λ_=>Fr.bind (Fr.rd _) λ_=>Fr.asCells _ λ_ _ _=>Fr.guard _ (Fr.guard _ (Fr.obind _ λ_=>Fr.fList _ λ_=>Fr.bind (Fr.wr _ _) λ_=>Fr.pure _))
theorem Fr.appendTo (e:TI)(s:Value)(vs:List Value):Fr (X7 e s vs):=by unfold V.X7;grind[Fr.guard,Fr.pure,Fr.fNat,Fr.bind,Fr.newCells,Fr.appendAt,Fr.fail]
theorem Fr.appendV (ts:Array TypeId)(vs:List Value):Fr (appendV T ts vs):=Fr.obind _ λ_=>Fr.obind _ λ_=>Fr.ti T _ λd=>Fr.ti T _ λ_=>by grind[Fr.obind,Fr.ti,Fr.guard,Fr.bind,Fr.source,Fr.fList,Fr.appendTo,Fr.fail]
theorem Fr.mapAt (r:Nat):Fr (a4M r):=Fr.bind (Fr.rd _) λ_=>Fr.asMap _ λ_=>Fr.pure _
theorem Fr.entries (x:Value):Fr (a8U x):=by unfold V.a8U;grind[Fr.pure,Fr.mapAt,Fr.fail]
theorem Fr.lookupV (t:TypeId)(x ix:Value)(ok:Bool):Fr (a8Q T t x ix ok):=Fr.ti T _ λd=>by split;grind[Fr.ti,Fr.guard,Fr.bind,Fr.entries,Fr.obind,Fr.pure];exact Fr.fail
theorem Fr.mapUpdateV (t:TypeId)(m k v:Value):Fr (a5z T t m k v):=Fr.ti T _ λd=>by split;grind[Fr.obind,Fr.ti,Fr.guard,Fr.bind,Fr.mapAt,Fr.fList,Fr.wr,Fr.fail];exact Fr.fail
theorem Fr.lenV (d:TypeDesc)(x:Value):Fr (c8k d x):=by unfold V.c8k;grind[Fr.pure,Fr.fail,Fr.bind,Fr.entries]
theorem Fr.convStr (e:TypeId)(b:ByteArray):Fr (c1G T e b):=Fr.ti T _ λ_=>Fr.guard _ (Fr.bind (Fr.newCells _) λ_=>Fr.pure _)
theorem Fr.convBytes (e:TypeId)(x:Value):Fr (convBytes T e x):=Fr.ti T _ λ_=>Fr.guard _ (Fr.bind (Fr.source _ _) λ_=>Fr.obind _ λ_=>Fr.pure _)
theorem Fr.convertV (s d:TypeId)(x:Value):Fr (a9y T s d x):=Fr.ti T _ λ_=>Fr.ti T _ λ_=>by grind[Fr.pure,Fr.fail,Fr.convStr,Fr.guard,Fr.convBytes]
theorem Fr.partV (t:TypeId)(cs:List Value)(off:Nat):Fr (partV T t cs off):=Fr.ti T _ λ_=>by grind[Fr.pure,Fr.obind]
theorem Fr.binV (op:BinOp)(t:TypeId)(x y:Operand)(a b:Value):Fr (a7n p T op t x y a b):=by grind[V.a7n,Fr.pure,Fr.guard,Fr.pureV]
theorem Fr.nextAt (b:Nat)(s:ByteArray)(pos:Nat):Fr (b0T b s pos):=by grind[V.b0T,Fr.fNat,Fr.bind,Fr.wr,Fr.pure]
theorem Fr.opBuiltin (fr:List Value)(b:Builtin)(args:Array Operand)(ts:Array TypeId):Fr (S5 p T fr b args ts):=Fr.evs T _ _ λ_=>by grind[Fr.guard,Fr.appendV,Fr.obind,Fr.ti,Fr.lenV,Fr.pureV,Fr.fail]
theorem Fr.simpleOp (fr:List Value)(o:Op):Fr (E4 p T fr o):=by unfold V.E4;split;exact Fr.lift _;exact Fr.lift _;refine Fr.ev T _ _ λ_=>Fr.ev T _ _ λ_=>Fr.ev T _ _ λ_=>?_;grind[Fr.pure,Fr.fail];exact Fr.ti T _ λ_=>Fr.guard _ (Fr.bind (Fr.newCells _) λ_=>Fr.pure _);exact Fr.ev T _ _ λ_=>Fr.guard _ (Fr.bind (Fr.newCells _) λ_=>Fr.pure _);refine Fr.evs T _ _ λ_=>Fr.ti T _ λ_=>Fr.guard _ ?_;grind[Fr.guard,Fr.obind,Fr.pure,Fr.ti,Fr.fail];refine Fr.evs T _ _ λ_=>Fr.ti T _ λ_=>?_;grind[Fr.ti,Fr.guard,Fr.obind,Fr.bind,Fr.newCells,Fr.pure,Fr.fail];exact Fr.ev T _ _ λ_=>Fr.asPtr _ λ_=>Fr.loadV T _ _;exact Fr.ev T _ _ λ_=>Fr.ev T _ _ λ_=>Fr.asPtr _ λ_=>Fr.bind (Fr.storeV T _ _ _) λ_=>Fr.pure _;refine Fr.ev T _ _ λ_=>?_;grind[Fr.guard,Fr.pure,Fr.fail];refine Fr.ev T _ _ λ_=>Fr.ev T _ _ λ_=>?_;grind[Fr.pure,Fr.binV,Fr.fail,Fr.lift];exact Fr.ev T _ _ λ_=>Fr.guard _ (Fr.pureV _);exact Fr.ev T _ _ λ_=>Fr.convertV T _ _ _;exact Fr.ev T _ _ λ_=>Fr.ti T _ λ_=>Fr.guard _ (Fr.pure _);exact Fr.evs T _ _ λ_=>Fr.evs T _ _ λ_=>Fr.pure _;unfold V.a9X;grind[Fr.bind,Fr.new,Fr.pure,Fr.ev,Fr.ti,Fr.guard];exact Fr.ev T _ _ λ_=>Fr.ev T _ _ λ_=>Fr.makeSliceV T _ _ _;exact Fr.evs T _ _ λ_=>Fr.evs T _ _ λ_=>Fr.evs T _ _ λ_=>Fr.ev T _ _ λ_=>Fr.sliceV T _ _ _ _ _;exact Fr.ev T _ _ λ_=>Fr.fieldAddrV T _ _ _;refine Fr.ev T _ _ λ_=>Fr.ti T _ λ_=>?_;grind[Fr.obind,Fr.partV,Fr.fail];exact Fr.ev T _ _ λ_=>Fr.ev T _ _ λ_=>Fr.indexAddrV T _ _ _;refine Fr.ev T _ _ λ_=>Fr.ev T _ _ λ_=>Fr.obind _ λ_=>Fr.ti T _ λ_=>?_;grind[Fr.obind,Fr.pure,Fr.fail,Fr.ti,Fr.guard,Fr.partV];exact Fr.ev T _ _ λ_=>Fr.ev T _ _ λ_=>Fr.lookupV T _ _ _ _;exact Fr.ev T _ _ λ_=>Fr.ev T _ _ λ_=>Fr.ev T _ _ λ_=>Fr.bind (Fr.mapUpdateV T _ _ _ _) λ_=>Fr.pure _;exact Fr.ev T _ _ λ_=>Fr.ev T _ _ λ_=>Fr.ev T _ _ λ_=>Fr.bind (Fr.mapUpdateV T _ _ _ _) λ_=>Fr.pure _;refine Fr.ev T _ _ λ_=>Fr.ti T _ λ_=>?_;grind[Fr.bind,Fr.new,Fr.pure,Fr.fail];refine Fr.guard _ (Fr.ev T _ _ λ_=>Fr.asPtr _ λ_=>Fr.guard _ (Fr.bind (Fr.rd _) λ_=>?_));grind[Fr.nextAt,Fr.fail];refine Fr.ev T _ _ λ_=>?_;grind[Fr.obind,Fr.pure,Fr.fail];exact Fr.fail
theorem Fr.stepOp {call:Nat->List Value->M Value}(hc:∀f vs,Fr (call f vs))(fr:List Value)(o:Op):Fr (M7 p T call fr o):=by unfold V.M7;split;unfold V.a9b;split;refine Fr.ev T _ _ λ_=>Fr.evs T _ _ λ_=>?_;grind[Fr.fail];grind[Fr.opBuiltin];exact Fr.fail;grind[Fr.simpleOp]
theorem Fr.resultsV (fr:List Value)(rs:List ResultVar):Fr (a1P T fr rs):=by induction rs with|nil=>exact Fr.pure _|cons r rs ih=>cases r with|tmp t=>exact Fr.bind ih λ_=>Fr.pure _|cell a t=>exact Fr.asPtr _ λ_=>Fr.bind (Fr.loadV T _ _) λ_=>Fr.bind ih λ_=>Fr.pure _
theorem a8H (call ops o os fr):a3R p T call ops (o::os) fr=if Y2 ops fr o then M.bind (M7 p T call fr o.op) λv=>a3R p T call ops os (G2 fr o v)else a3R p T call ops os (G2 fr o undef):=by show(match Y2 ops fr o with|true=>M.bind (M7 p T call fr o.op) λv=>a5X v λv=>a3R p T call ops os (G2 fr o v)|false=>a3R p T call ops os (G2 fr o undef))=_;grind[a6b]
theorem Fr.runOps {call:Nat->List Value->M Value}(hc:∀f vs,Fr (call f vs))(ops os:List Oper):∀fr,Fr (a3R p T call ops os fr):=by induction os with|nil=>intro fr;exact Fr.pure _|cons o os ih=>grind[a8H,Fr.bind,Fr.stepOp]
theorem Fr.foot {α}{m:M α}(hm:Fr m):Fr (M.foot m):=by intro s x s' h;unfold M.foot at h;cases e:m ⟨s.c,s.h,[],[]⟩with|none=>rw[e]at h;cases h|some y=>obtain⟨a,s1⟩:=y;rw[e]at h;simp only[v8]at h;cases h;obtain⟨dr,dw,e1,e2,e3,e4,e5,e6,e7,e8⟩:=hm _ _ _ e;simp only[xJ]at e1 e2;refine⟨dr,dw,by rw[e1],by rw[e2],e3,e4,e5,e6,e7,λh2 r2 w2 hag=>?_⟩;obtain⟨h2',q1,q2,q3⟩:=e8 h2 [] [] hag;simp_all[M.foot,v8]
theorem a5v (call ops o os fr):a0o p T call ops (o::os) fr=if Y2 ops fr o then M.bind (M.foot (M7 p T call fr o.op)) (λx=>M.bind (a0o p T call ops os (G2 fr o x.1)) λy=>M.pure (y.1,x.2::y.2))else M.bind (a0o p T call ops os (G2 fr o undef)) λy=>M.pure (y.1,([],[])::y.2):=by show(match Y2 ops fr o with|true=>M.bind (M.foot (M7 p T call fr o.op)) λx=>a5X x.1 λv=>M.bind (a0o p T call ops os (G2 fr o v)) λy=>M.pure (y.1,x.2::y.2)|false=>M.bind (a0o p T call ops os (G2 fr o undef)) λy=>M.pure (y.1,([],[])::y.2))=_;grind[a6b]
theorem Fr.runD {call:Nat->List Value->M Value}(hc:∀f vs,Fr (call f vs))(ops os:List Oper):∀fr,Fr (a0o p T call ops os fr):=by induction os with|nil=>intro fr;exact Fr.pure _|cons o os ih=>grind[a5v,Fr.bind,Fr.foot,Fr.stepOp,Fr.pure]
theorem Fr.region {call:Nat->List Value->M Value}(hc:∀f vs,Fr (call f vs))(ops:List Oper)(draw:Bool)(fr:List Value):Fr (region p T call ops draw fr):=by unfold V.region;grind[Fr.bind,Fr.runOps,Fr.pure,Fr.runD,Fr.guard]
theorem Fr.exec {call:Nat->List Value->M Value}(hc:∀f vs,Fr (call f vs))(n:Nat):∀c fr,Fr (a4z p T call n c fr):=by induction n with|zero=>intro c fr;exact Fr.fail|succ n ih=>intro c fr;show Fr (c3d p T call (V.a4z p T call n) c fr);unfold V.c3d;grind[Fr.pure,Fr.region,Fr.bind,Fr.obind,Fr.fail,Fr.fList]
theorem Fr.externV (f:Nat)(vs:List Value):Fr (b4W p f vs):=Fr.guard _ (Fr.obind _ λ_=>Fr.obind _ λ_=>Fr.guard _ (Fr.pure _))
theorem Fr.callV {ext:Nat->Option (List Value->M Value)}(he:∀f g,ext f=some g->∀vs,Fr (g vs))(n:Nat):∀f vs,Fr (a4P p T ext n f vs):=by induction n with|zero=>intro f vs;exact Fr.fail|succ n ih=>intro f vs;show Fr (match ext f with|some g=>g vs|none=>M.obind (T.funcs.get f) λfn=>enter p T (V.a4P p T ext n) n fn f vs);split;rename_i g hg;exact he f g hg vs;refine Fr.obind _ λfn=>?_;grind[V.enter,Fr.externV,Fr.bind,Fr.exec,V.a9g,Fr.fail,Fr.resultsV,Fr.pure]
end
end Go.V
end
section
namespace Go.V
open Go.RowKit (Below)
structure Loc where
 blk:Nat
 lo:Nat
 at_:Nat
 sz:Nat
 own:Bool
abbrev KM:=Nat->Nat->Option Loc
def KM.le (K K':KM):Prop:=∀b g l,K b g=some l->K' b g=some l
theorem KM.le_refl (K:KM):K.le K:=λ_ _ _ h=>h
theorem KM.le_trans {K K' K'':KM}(h:K.le K')(h':K'.le K''):K.le K'':=λb g l e=>h' b g l (h b g l e)
inductive VR (K:KM):Value→Value→Prop
 | plain {v:Value}:plain v=true→VR K v v
 | ptr {b g off:Nat} {l:Loc}:K b g=some l→l.lo≤off→VR K (.pointer (some ⟨l.blk,l.at_+(off - l.lo),none⟩)) (.pointer (some ⟨b,off,some g⟩))
 | slice {b g off len cap es:Nat} {l:Loc} {a':Addr}:K b g=some l→l.lo≤off→0<es→len≤cap→(cap=0∨a'.spot=none) →
  (cap=0∨(a'.block=l.blk∧a'.off=l.at_+(off - l.lo)∧(l.own=true→a'.off+cap * es≤l.sz))) →
  VR K (.slice (some a') len cap) (.slice (some ⟨b,off,some g⟩) len es)
 | map {b:Nat} {l:Loc}:K b 0=some l→VR K (.map (some l.blk)) (.map (some b))
 | agg {cs' cs:Array Value}:cs'.toList.length=cs.toList.length→(∀ (i:Nat) (v' v:Value),cs'.toList[i]?=some v'→cs.toList[i]?=some v→VR K v' v)→VR K (.agg cs') (.agg cs)
 | tuple {cs' cs:Array Value}:cs'.toList.length=cs.toList.length→(∀ (i:Nat) (v' v:Value),cs'.toList[i]?=some v'→cs.toList[i]?=some v→VR K v' v)→VR K (.tuple cs') (.tuple cs)
 | func {fn:Fn} {a' a b' b:Array Value}:a'.toList.length=a.toList.length→(∀ (i:Nat) (v' v:Value),a'.toList[i]?=some v'→a.toList[i]?=some v→VR K v' v) →
  b'.toList.length=b.toList.length→(∀ (i:Nat) (v' v:Value),b'.toList[i]?=some v'→b.toList[i]?=some v→VR K v' v)→VR K (.func fn a' b') (.func fn a b)
 | iface {t:TypeId} {v' v:Value}:VR K v' v→VR K (.iface t v') (.iface t v)
structure VRL (K:KM) (l' l:List Value):Prop where
 len:l'.length=l.length
 at_:∀ (i:Nat) (v' v:Value),l'[i]?=some v'→l[i]?=some v→VR K v' v
theorem VR.mono {K K'}(h:K.le K'){v' v}(r:VR K v' v):VR K' v' v:=by induction r with|plain h=>exact .plain h|ptr hk hl=>exact .ptr (h _ _ _ hk) hl|slice hk h1 h2 h3 h4 h5=>exact .slice (h _ _ _ hk) h1 h2 h3 h4 h5|map hk=>exact .map (h _ _ _ hk)|agg hl _ ih=>exact .agg hl ih|tuple hl _ ih=>exact .tuple hl ih|func hl _ hl' _ ih ih'=>exact .func hl ih hl' ih'|iface _ ih=>exact .iface ih
theorem VRL.mono {K K'}(h:K.le K'){l' l}(r:VRL K l' l):VRL K' l' l:=⟨r.len,λi v' v e e'=>(r.at_ i v' v e e').mono h⟩
theorem VRL.nil (K):VRL K [] []:=⟨rfl,λi v' v h=>by simp at h⟩
theorem VRL.cons {K v' v l' l}(h:VR K v' v)(r:VRL K l' l):VRL K (v'::l') (v::l):=⟨by simp[r.len],λi x' x e e'=>by cases i with|zero=>simp_all|succ i=>exact r.at_ i x' x zr zr⟩
theorem VRL.head {K v' v l' l}(r:VRL K (v'::l') (v::l)):VR K v' v:=r.at_ 0 v' v rfl rfl
theorem VRL.tail {K v' v l' l}(r:VRL K (v'::l') (v::l)):VRL K l' l:=⟨by simpa using r.len,λi x' x e e'=>r.at_ (i+1) x' x zr zr⟩
theorem VRL.append {K a' a b' b}(h:VRL K a' a)(r:VRL K b' b):VRL K (a'++b') (a++b):=⟨by simp[h.len,r.len],λi v' v e e'=>by by_cases hi:i<a.length;rw[wh (by rw[h.len];exact hi)]at e;rw[wh hi]at e';exact h.at_ i v' v e e';rw[wo (by rw[h.len];omega)]at e;rw[wo zy]at e';rw[h.len]at e;exact r.at_ _ v' v e e'⟩
theorem VRL.take {K a' a}(h:VRL K a' a)(n):VRL K (a'.take n) (a.take n):=⟨by simp[h.len],λi v' v e e'=>by rw[vY]at e e';split at e;rename_i hi;rw[wT hi]at e';exact h.at_ i v' v e e';cases e⟩
theorem VRL.drop {K a' a}(h:VRL K a' a)(n):VRL K (a'.drop n) (a.drop n):=⟨by simp[h.len],λi v' v e e'=>by rw[vr]at e e';exact h.at_ _ v' v e e'⟩
theorem VRL.refl_plain {K}(l)(h:∀v∈l,V.plain v=true):VRL K l l:=⟨rfl,λi v' v e e'=>by rw[e]at e';cases e';exact .plain (h _ (we e))⟩
theorem VR.undef (K:KM):VR K undef undef:=.tuple rfl λi v' v h=>by simp at h
theorem a1Y (l i):r6 l i=(l[i]?).getD Go.undef:=by induction l generalizing i with|nil=>rfl|cons v l ih=>cases i with|zero=>rfl|succ i=>exact ih i
theorem VRL.lget {K:KM}{l' l:List Value}(h:VRL K l' l)(i:Nat):VR K (r6 l' i) (r6 l i):=by
 rw[a1Y,a1Y];by_cases hi:i<l.length;have hi':i<l'.length:=by rw[h.len];exact hi
 rw[xP hi,xP hi'];exact h.at_ i _ _ (xP hi') (xP hi);have e1:l[i]?=none:=ww zy;have e2:l'[i]?=none:=ww (by rw[h.len];omega);rw[e1,e2];exact VR.undef K
theorem a7D (l i x):a2L l i x=l.set i x:=by induction l generalizing i with|nil=>simp[a2L]|cons v l ih=>cases i with|zero=>rfl|succ i=>simp_all[a2L]
theorem VRL.lset {K:KM}{l' l:List Value}(h:VRL K l' l)(i:Nat){x' x:Value}(hx:VR K x' x):VRL K (l'.set i x') (a2L l i x):=by rw[a7D];refine⟨by simp[h.len],λj v' v e e'=>?_⟩;rw[uH]at e e';split at e;simp_all;rename_i hij;rw[wX hij]at e';exact h.at_ j v' v e e'
theorem VR.oneCell {K:KM}{v' v:Value}(h:VR K v' v)(h1:D5 v=true):v'.oneCell'=true:=by
 cases h with
  |plain hp=>cases v'<;>first|rfl|exact absurd h1 (by simp[V.D5])
  |agg _ _=>grind[V.D5]|tuple _ _=>grind[V.D5]|_=>rfl
structure MR (K:KM) (es':List MapEntry) (es:List (Value×Value)):Prop where
 len:es'.length=es.length
 key:∀ (i:Nat) (e':MapEntry) (e:Value×Value),es'[i]?=some e'→es[i]?=some e→e'.key=e.1∧VR K e'.val e.2
structure Base where
 w:World
 R:Nat→Prop
structure Sim (B0:Nat) (w0:Base) (K:KM) (h:Trie VObj) (w:World):Prop where
 size0:B0≤w0.w.heap.size∧∀ k,B0≤k→w0.R k
 below:Below B0 w0.w w
 dom':∀ b g l,K b g=some l→l.blk<w.heap.size∧w0.R l.blk
 dom2:∀ b g l,K b g=some l→∃ o,h.get b=some o
 own:∀ b g l,K b g=some l→l.own=true→B0≤l.blk
 apart:∀ b g l b' g' l',K b g=some l→K b' g'=some l'→b≠b'→l.own=true→l.blk≠l'.blk
 same:∀ b g l g' l',K b g=some l→K b g'=some l'→l.own=l'.own∧(l.blk=l'.blk→l.at_+l'.lo=l'.at_+l.lo)
 room:∀ b g l cs cur ro,K b g=some l→l.own=true→h.get b=some (.cells cs cur ro)→∃ c e fz,w.heap[l.blk]?=some (.cells c e fz)∧c.size=l.sz∧∀ o,o<l.sz→w.frozen? ⟨l.blk,o,none⟩=false
 gens:∀ b cs cur ro,h.get b=some (.cells cs cur ro)→(∀ g l,K b g=some l→g≤cur∧(ro=false→l.own=true))∧(∀ g,g≤cur→∃ l,K b g=some l)∧∀ c,c∈cs→c.2≤cur
 cells:∀ b cs cur ro g l,h.get b=some (.cells cs cur ro)→K b g=some l→∀ (off:Nat) v st,cs[off]?=some (v,st)→st≤g→l.lo≤off →
  ∃ v',w.cell? ⟨l.blk,l.at_+(off - l.lo),none⟩=some v'∧VR K v' v
 map:∀ b es,h.get b=some (.map es)→∃ l es' clock,K b 0=some l∧l.own=true∧w.heap[l.blk]?=some (.map es' clock)∧MR K es'.toList es
 siter:∀ b s pos,h.get b=some (.siter s pos)→∃ l,K b 0=some l∧l.own=true∧l.lo=0∧l.at_=0∧w.heap[l.blk]?=some (.stringIter s pos)
 gen0:∀ b g l,K b g=some l→(∀ cs cur ro,h.get b≠some (.cells cs cur ro))→g=0
theorem Sim.dom {B0 w0 K h w}(S:Sim B0 w0 K h w):∀b g l,K b g=some l->l.blk<w.heap.size:=λb g l q=>(S.dom' b g l q).1
theorem a4v (g):∀(cs) (n) (vs),j8 g cs n=some vs->vs.length=n/\∀i,i<n->∃v st,cs[i]?=some (v,st)/\st<=g/\vs[i]?=some v:=by
 intro cs;induction cs with
  |nil=>intro n vs h;cases n with|zero=>cases h;simp|succ n=>cases h
  |cons c cs ih=>
   intro n vs h;cases n with
    |zero=>cases h;simp|succ n=>
     have h':(match Nat.ble c.2 g with|true=>(match j8 g cs n with|some vs=>some (c.1::vs)|none=>none)|false=>none)=some vs:=h;split at h';rename_i hb;split at h';rename_i vs' hvs;cases h';obtain⟨h1,h2⟩:=ih n vs' hvs;refine⟨by simp[h1],λi hi=>?_⟩;cases i with|zero=>exact⟨c.1,c.2,rfl,wk hb,rfl⟩|succ i=>simp_all
     cases h';cases h'
theorem a7b (b o n):(⟨b,o,none⟩:Addr).add n=⟨b,o+n,none⟩:=by grind[Addr.add]
theorem a6N {a n s s' vs}(h:loadN a n s=some (vs,s')):∃g cs cur ro,a.spot=some g/\s.h.get a.block=some (.cells cs cur ro)/\j8 g (cs.drop a.off) n=some vs/\s'.c=s.c/\s'.h=s.h:=by unfold loadN at h;cases hg:a.spot with|none=>rw[hg]at h;cases h|some g=>rw[hg]at h;simp only[M.obind,M.bind,rd]at h;cases hb:Nat.blt a.block s.c with|false=>rw[hb]at h;cases h|true=>rw[hb]at h;cases ho:s.h.get a.block with|none=>rw[ho]at h;cases h|some o=>rw[ho]at h;cases o with|cells cs cur ro=>simp only[a5h,M.lift,Q8]at h;grind|map es=>cases h|siter x y=>cases h
theorem a6P {B0 w0 K h w}(S:Sim B0 w0 K h w){b g off n l cs cur ro vs}(hk:K b g=some l)(hlo:l.lo<=off)(ho:h.get b=some (.cells cs cur ro))(ht:j8 g (cs.drop off) n=some vs):∃vs',VRL K vs' vs/\vs.length=n/\∀(j) v',vs'[j]?=some v'->w.cell? ⟨l.blk,l.at_+(off-l.lo)+j,none⟩=some v':=by
 obtain⟨h1,h2⟩:=a4v g _ n vs ht;have h3:∀i,∃v',i<n->w.cell? ⟨l.blk,l.at_+(off-l.lo)+i,none⟩=some v'/\∀v,vs[i]?=some v->VR K v' v:=by intro i;by_cases hi:i<n;obtain⟨v,st,e1,e2,e3⟩:=h2 i hi;rw[vr]at e1;obtain⟨v',c1,c2⟩:=S.cells b cs cur ro g l ho hk (off+i) v st e1 e2 zy;grind;exact⟨undef,λh=>absurd h hi⟩
 refine⟨(List.range n).map λi=>Classical.choose (h3 i),⟨by simp[h1],λi v' v e e'=>?_⟩,h1,λj v' e=>?_⟩;have hi:i<n:=by have:=(xQ.1 e).1;simp_all
 rw[wc,List.getElem?_range hi]at e;grind;grind
theorem b1b {P B0 w0 K w a n s s' vs}(h:loadN a n s=some (vs,s'))(S:Sim B0 w0 K s.h w){a'}(r:VR K (.pointer (some a')) (.pointer (some a))):∃vs',(loadCells a' n).run P w=.ok vs'.toArray w/\VRL K vs' vs/\vs'.length=n/\s'.c=s.c/\s'.h=s.h:=by
 obtain⟨g,cs,cur,ro,e1,e2,e3,e4,e5⟩:=a6N h;generalize hv:Value.pointer (some a)=v at r;generalize hv':Value.pointer (some a')=v' at r;cases r with
  |plain hp=>grind[V.plain]|ptr hk hlo=>
   cases hv;cases hv';cases e1;obtain⟨vs',c1,c2,c3⟩:=a6P S hk hlo e2 e3;have hn:vs'.length=n:=by rw[c1.len,c2]
   grind[run_loadCells_list,a7b]|_=>cases hv
structure Upd (w w':World) (b o:Nat) (vs:List Value):Prop where
 os:w'.os=w.os
 tape:w'.tape=w.tape
 output:w'.output=w.output
 size:w'.heap.size=w.heap.size
 other:∀ k,k≠b→w'.heap[k]?=w.heap[k]?
 blk:∀ c e fz,w.heap[b]?=some (.cells c e fz)→∃ c',w'.heap[b]?=some (.cells c' e fz)∧c'.size=c.size ∧
  ∀ j,c'[j]?=if o≤j∧j<o+vs.length then (if j<c.size then vs[j - o]? else none) else c[j]?
theorem Upd.nil (w b o):Upd w w b o []:=⟨rfl,rfl,rfl,rfl,λ_ _=>rfl,λc e fz h=>⟨c,h,rfl,λj=>by rw[wX zu]⟩⟩
theorem a9J (P b):∀(vs) (o i) (w),(∀j,j<vs.length->(w.cell? ⟨b,o+i+j,none⟩).isSome=true)->(∀j,j<vs.length->w.frozen? ⟨b,o+i+j,none⟩=false)->(∀v∈vs,v.oneCell'=true)->∃w',(storeCells ⟨b,o,none⟩ vs i).run P w=.ok () w'/\Upd w w' b (o+i) vs
 |[],o,i,w,_,_,_=>⟨w,rfl,Upd.nil w b _⟩|v::vs,o,i,w,hc,hf,h1=>by
  have c0:=hc 0 zu;have f0:=hf 0 zu;simp only[wV]at c0 f0;obtain⟨u,hu⟩:=vI.1 c0;have hne:∀j,(⟨b,o+i,none⟩:Addr)≠⟨b,o+i+(j+1),none⟩:=λj h=>by have:=xC Addr.off h;simp at this
  obtain⟨w',r1,r2⟩:=a9J P b vs o (i+1) (w.setCell ⟨b,o+i,none⟩ v) (λj hj=>by have:=hc (j+1) zr;rw[show o+(i+1)+j=o+i+(j+1) by omega,sx _ _ _ _ (hne j)];exact this) (λj hj=>by have:=hf (j+1) zr;rw[show o+(i+1)+j=o+i+(j+1) by omega,World.frozen?_setCell];exact this) (λx hx=>h1 x (wY _ hx));refine⟨w',?_,?_⟩;simp_all[storeCells,a7b,run_store];refine⟨r2.os,r2.tape,r2.output,by rw[r2.size];simp,?_,?_⟩;intro k hk;rw[r2.other k hk,RowKit.Below.heap_setCell _ _ _ _ hk];intro c e fz hb;have hb':(w.setCell ⟨b,o+i,none⟩ v).heap[b]?=some (.cells (c.setIfInBounds (o+i) v) e fz):=by simp[World.setCell,uS,hb]
  obtain⟨c',g1,g2,g3⟩:=r2.blk _ e fz hb';grind
theorem Upd.cell_other {w w' b o vs}(u:Upd w w' b o vs){c e fz}(hw:w.heap[b]?=some (.cells c e fz))(a)(h:a.block≠b\/¬(o<=a.off/\a.off<o+vs.length)):w'.cell? a=w.cell? a:=by by_cases hb:a.block=b;rcases h with h|h;omega;obtain⟨c',g1,g2,g3⟩:=u.blk c e fz hw;simp_all[World.cell?,wX];exact vH (w:=w) (u.other _ hb)
theorem Upd.cell_new {w w' b o vs}(u:Upd w w' b o vs){c e fz}(hw:w.heap[b]?=some (.cells c e fz))(hs:o+vs.length<=c.size)(j)(v)(hj:vs[j]?=some v):w'.cell? ⟨b,o+j,none⟩=some v:=by
 obtain⟨c',g1,g2,g3⟩:=u.blk c e fz hw;have hlt:j<vs.length:=(xQ.1 hj).1;have e1:c'[o+j]?=vs[j]?:=by rw[g3 (o+j),wT zy,wT zy,show o+j-o=j by omega]
 simp only[World.cell?,g1];rw[wX zu,e1,hj]
theorem Upd.frozen {w w' b o vs}(u:Upd w w' b o vs){c e fz}(hw:w.heap[b]?=some (.cells c e fz))(a):w'.frozen? a=w.frozen? a:=by by_cases hb:a.block=b;obtain⟨c',g1,_,_⟩:=u.blk c e fz hw;grind[World.frozen?];exact uF (w:=w) (u.other _ hb)
theorem Upd.below {w w' b o vs}(u:Upd w w' b o vs){B}(hB:B<=b):Below B w w':=⟨u.os,u.tape,u.output,by rw[u.size];omega,λk hk=>u.other k zy⟩
theorem a9p (g):∀(vs) (cs) (j),(a0W g vs cs)[j]?=if j<vs.length then(vs[j]?).map (λv=>(v,g))else cs[j]?:=by intro vs;induction vs with|nil=>intro cs j;rfl|cons v vs ih=>intro cs j;cases cs with|nil=>show((v,g)::a0W g vs [])[j]?=_;grind|cons c cs=>show((v,g)::a0W g vs cs)[j]?=_;grind
theorem b6y (g vs):∀(cs) (n) (cs'),Z7 g vs cs n=some cs'->∀(j),cs'[j]?=if n<=j/\j<n+vs.length then(vs[j-n]?).map (λv=>(v,g))else cs[j]?:=by
 intro cs;induction cs with
  |nil=>
   intro n cs' h j;cases n with
    |zero=>
     have:cs'=a0W g vs []:=by cases h;rfl
     rw[this,a9p];by_cases hj:j<vs.length<;>simp[hj]|succ n=>cases h
  |cons c cs ih=>
   intro n cs' h j;cases n with
    |zero=>
     have:cs'=a0W g vs (c::cs):=by cases h;rfl
     rw[this,a9p];by_cases hj:j<vs.length<;>simp[hj]|succ n=>have h':(match Z7 g vs cs n with|some cs'=>some (c::cs')|none=>none)=some cs':=h;grind
theorem b3Z {i o s s' u}(h:wr i o s=some (u,s')):(∃o',s.h.get i=some o')/\s'.c=s.c/\∀j,s'.h.get j=if j=i then some o else s.h.get j:=by unfold wr at h;split at h;split at h;rename_i o' ho;rw[Trie.putK_eq]at h;cases h;exact⟨⟨o',ho⟩,rfl,λj=>Trie.get_put _ _ _ _ (xG _) j⟩;cases h;cases h
theorem Upd.room {w w' b o vs}(u:Upd w w' b o vs){k n}(h:∃c e fz,w.heap[k]?=some (.cells c e fz)/\c.size=n/\∀o,o<n->w.frozen? ⟨k,o,none⟩=false){c0}{e0}{fz0}(hw:w.heap[b]?=some (.cells c0 e0 fz0)):∃c e fz,w'.heap[k]?=some (.cells c e fz)/\c.size=n/\∀o,o<n->w'.frozen? ⟨k,o,none⟩=false:=by obtain⟨c,e,fz,h1,h2,h3⟩:=h;by_cases hk:k=b;subst hk;obtain⟨c',g1,g2,_⟩:=u.blk c e fz h1;exact⟨c',e,fz,g1,zy,λo ho=>by rw[u.frozen h1];grind⟩;exact⟨c,e,fz,by rw[u.other k hk];exact h1,h2,λo ho=>by rw[u.frozen hw];grind⟩
theorem c6T {B0 w0 K h h' w w'}(S:Sim B0 w0 K h w){b cur off l cs cs' vs vs'}(hk:K b cur=some l)(hlo:l.lo<=off)(ho:h.get b=some (.cells cs cur false))(hlen:off+vs.length<=cs.length)(hpos:0<vs.length)(hcs:∀(j),cs'[j]?=if off<=j/\j<off+vs.length then(vs[j-off]?).map (λv=>(v,cur))else cs[j]?)(hh:∀j,h'.get j=if j=b then some (.cells cs' cur false)else h.get j)(hv:VRL K vs' vs)(u:Upd w w' l.blk (l.at_+(off-l.lo)) vs'):Sim B0 w0 K h' w':=by
 obtain⟨hg1,hg2,hg3⟩:=S.gens b cs cur false ho;have hown:l.own=true:=(hg1 cur l hk).2 rfl;obtain⟨c,e,fz,hc1,hc2,hc3⟩:=S.room b cur l cs cur false hk hown ho;have hsz:l.at_+(off-l.lo)+vs'.length<=c.size:=by have h1:off+vs.length-1<cs.length:=zy;obtain⟨v',q1,_⟩:=S.cells b cs cur false cur l ho hk (off+vs.length-1) cs[off+vs.length-1].1 cs[off+vs.length-1].2 (xP h1) (hg3 _ (vo h1)) zy;simp only[World.cell?,hc1]at q1;have:=(uM.1 (by simpa using q1)).1;rw[hv.len];omega
 have hb:h'.get b=some (.cells cs' cur false):=yC;have hnb:∀j,j≠b->h'.get j=h.get j:=λj hj=>yA;refine⟨S.size0,S.below.trans (u.below (S.own b cur l hk hown)),λb2 g2 l2 q=>by rw[u.size];exact S.dom' b2 g2 l2 q,λb2 g2 l2 q=>by by_cases hx:b2=b;exact⟨_,by rw[hx];exact hb⟩;rw[hnb b2 hx];exact S.dom2 b2 g2 l2 q,S.own,S.apart,S.same,?_,?_,?_,?_,?_,(λb2 g2 l2 q hnc=>by by_cases hx:b2=b;simp_all;exact S.gen0 b2 g2 l2 q (λcs cur ro e=>hnc cs cur ro (by rw[hnb b2 hx];exact e)))⟩;intro b2 g2 l2 cs2 cur2 ro2 q1 q2 q3;by_cases hb2:b2=b;subst hb2;exact u.room (S.room b2 g2 l2 cs cur false q1 q2 ho) hc1;rw[hnb b2 hb2]at q3;exact u.room (S.room b2 g2 l2 cs2 cur2 ro2 q1 q2 q3) hc1;intro b2 cs2 cur2 ro2 q;by_cases hb2:b2=b;subst hb2;rw[hb]at q;cases q;refine⟨hg1,hg2,λx hx=>?_⟩;obtain⟨j,hj,hx⟩:=tM hx;have e1:=hcs j;rw[xP hj,hx]at e1;grind;rw[hnb b2 hb2]at q;exact S.gens b2 cs2 cur2 ro2 q;intro b2 cs2 cur2 ro2 g2 l2 q1 q2 off2 v st q3 q4 q5;by_cases hb2:b2=b;subst hb2;rw[hb]at q1;cases q1;have e1:=hcs off2;rw[q3]at e1;split at e1;rename_i hr;cases hvj:vs[off2-off]? with
  |none=>rw[hvj]at e1;cases e1|some y=>
   rw[hvj]at e1;cases e1;have hgc:g2=cur:=Nat.le_antisymm (hg1 g2 l2 q2).1 q4;subst hgc;rw[hk]at q2;cases q2;have hlt:off2-off<vs'.length:=by rw[hv.len];omega
   refine⟨vs'[off2-off],?_,hv.at_ _ _ _ (xP hlt) hvj⟩;rw[show l.at_+(off2-l.lo)=l.at_+(off-l.lo)+(off2-off) by omega];exact u.cell_new hc1 hsz _ _ (xP hlt)
 rename_i hr;obtain⟨v',r1,r2⟩:=S.cells b2 cs cur false g2 l2 ho q2 off2 v st e1.symm q4 q5;refine⟨v',?_,r2⟩;rw[u.cell_other hc1 _ ?_];exact r1;by_cases hbk:l2.blk=l.blk;right;have:=(S.same b2 cur l g2 l2 hk q2).2 hbk.symm;have hl:=hv.len;grind;simp_all;rw[hnb b2 hb2]at q1;obtain⟨v',r1,r2⟩:=S.cells b2 cs2 cur2 ro2 g2 l2 q1 q2 off2 v st q3 q4 q5;refine⟨v',?_,r2⟩;rw[u.cell_other hc1 _ (Or.inl (S.apart b cur l b2 g2 l2 hk q2 (tJ hb2) hown).symm)];exact r1;intro b2 es q;have hb2:b2≠b:=λh=>by rw[h,hb]at q;cases q
 rw[hnb b2 hb2]at q;obtain⟨l2,es',clock,r1,r2,r3,r4⟩:=S.map b2 es q;exact⟨l2,es',clock,r1,r2,by rw[u.other _ (S.apart b cur l b2 0 l2 hk r1 (tJ hb2) hown).symm];exact r3,r4⟩;intro b2 x pos q;have hb2:b2≠b:=λh=>by rw[h,hb]at q;cases q
 rw[hnb b2 hb2]at q;obtain⟨l2,r1,r2,r3,r4,r5⟩:=S.siter b2 x pos q;exact⟨l2,r1,r2,r3,r4,by rw[u.other _ (S.apart b cur l b2 0 l2 hk r1 (tJ hb2) hown).symm];exact r5⟩
theorem c4t {a vs s s' u}(h:storeN a vs s=some (u,s')):∃cur cs cs',a.spot=some cur/\s.h.get a.block=some (.cells cs cur false)/\(∀v∈vs,D5 v=true)/\a.off+vs.length<=cs.length/\Z7 cur vs cs a.off=some cs'/\s'.c=s.c/\∀j,s'.h.get j=if j=a.block then some (.cells cs' cur false)else s.h.get j:=by
 unfold storeN at h;cases hg:a.spot with
  |none=>rw[hg]at h;cases h|some g=>
   rw[hg]at h;simp only[M.obind,M.bind,rd]at h;cases hb:Nat.blt a.block s.c with
    |false=>rw[hb]at h;cases h|true=>
     rw[hb]at h;cases ho:s.h.get a.block with
      |none=>rw[ho]at h;cases h|some o=>
       rw[ho]at h;cases o with
        |cells cs cur ro=>simp only[a5h]at h;cases hgd:(Nat.beq g cur&& !ro&&A9 D5 vs&&Nat.ble (a.off+j9 vs) (j9 cs))with|false=>rw[hgd]at h;cases h|true=>rw[hgd]at h;simp only[xM,vS,C9,y9]at hgd;obtain⟨⟨⟨g1,g2⟩,g3⟩,g4⟩:=hgd;have g1:=xS g1;have g4:=wk g4;subst g1 g2;simp only[M.guard]at h;cases hp:Z7 g vs cs a.off with|none=>rw[hp]at h;cases h|some cs'=>rw[hp]at h;simp only[M4]at h;obtain⟨_,w2,w3⟩:=b3Z h;simp_all
        |map es=>cases h|siter x y=>cases h
theorem a6p {K a a'}(r:VR K (.pointer (some a')) (.pointer (some a))):∃g l,a.spot=some g/\K a.block g=some l/\l.lo<=a.off/\a'=⟨l.blk,l.at_+(a.off-l.lo),none⟩:=by generalize hv:Value.pointer (some a)=v at r;generalize hv':Value.pointer (some a')=v' at r;cases r with|plain hp=>grind[V.plain]|ptr hk hlo=>simp_all|_=>cases hv
theorem c3L {P B0 w0 K w a s s' vs vs' u}(h:storeN a vs s=some (u,s'))(S:Sim B0 w0 K s.h w)(hpos:0<vs.length){a'}(r:VR K (.pointer (some a')) (.pointer (some a)))(hv:VRL K vs' vs):∃w',(storeCells a' vs').run P w=.ok () w'/\Sim B0 w0 K s'.h w'/\s'.c=s.c:=by
 obtain⟨cur,cs,cs',e1,e2,e3,e4,e5,e6,e7⟩:=c4t h;obtain⟨g,l,f1,f2,f3,rfl⟩:=a6p r;rw[e1]at f1;cases f1;obtain⟨hg1,hg2,hg3⟩:=S.gens _ cs cur false e2;have hown:l.own=true:=(hg1 cur l f2).2 rfl;obtain⟨c,e,fz,hc1,hc2,hc3⟩:=S.room _ cur l cs cur false f2 hown e2;have hcell:∀j,j<vs'.length->(w.cell? ⟨l.blk,l.at_+(a.off-l.lo)+0+j,none⟩).isSome=true:=by
  intro j hj;have h1:a.off+j<cs.length:=by rw[hv.len]at hj;omega
  obtain⟨v',q1,_⟩:=S.cells _ cs cur false cur l e2 f2 (a.off+j) cs[a.off+j].1 cs[a.off+j].2 (xP h1) (hg3 _ (vo h1)) zy;rw[show l.at_+(a.off-l.lo)+0+j=l.at_+(a.off+j-l.lo) by omega,q1];rfl
 obtain⟨w',r1,r2⟩:=a9J P l.blk vs' (l.at_+(a.off-l.lo)) 0 w hcell (λj hj=>by grind[World.cell?]) (λv hvm=>by
  obtain⟨j,hj,rfl⟩:=tM hvm;have hj2:j<vs.length:=by rw[<-hv.len];exact hj
  exact(hv.at_ j _ _ (xP hj) (xP hj2)).oneCell (e3 _ (vo hj2)));exact⟨w',r1,c6T S f2 f3 e2 e4 hpos (b6y cur vs cs a.off cs' e5) e7 hv r2,e6⟩
def KM.put (K:KM)(b g:Nat)(l:Loc):KM:=λb' g'=>if b'=b/\g'=g then some l else K b' g'
theorem KM.put_same (K:KM)(b g l):K.put b g l b g=some l:=by simp[KM.put]
theorem KM.put_other (K:KM){b g b' g'}(l)(h:¬(b'=b/\g'=g)):K.put b g l b' g'=K b' g':=by simp[KM.put,h]
theorem KM.le_put (K:KM){b g}(l)(h:K b g=none):K.le (K.put b g l):=λb' g' l' e=>by rw[KM.put_other K l (λ⟨h1,h2⟩=>by rw[h1,h2,h]at e;cases e)];exact e
theorem KM.put_inv {K:KM}{b g b' g' l l'}(h:K.put b g l b' g'=some l'):(b'=b/\g'=g/\l'=l)\/K b' g'=some l':=by unfold KM.put at h;grind
structure Grew (w w':World):Prop where
 os:w'.os=w.os
 tape:w'.tape=w.tape
 output:w'.output=w.output
 size:w.heap.size≤w'.heap.size
 old:∀ k,k<w.heap.size→w'.heap[k]?=w.heap[k]?
theorem Grew.refl (w):Grew w w:=⟨rfl,rfl,rfl,xR _,λ_ _=>rfl⟩
theorem Grew.trans {a b c}(h:Grew a b)(k:Grew b c):Grew a c:=⟨k.os.trans h.os,k.tape.trans h.tape,k.output.trans h.output,wg h.size k.size,λi hi=>(k.old i (xI hi h.size)).trans (h.old i hi)⟩
theorem Grew.alloc (w o):Grew w (w.alloc o):=⟨rfl,rfl,rfl,zu,λk hk=>RowKit.Below.heap_alloc w o k hk⟩
theorem Grew.drew (w):Grew w w.drew:=⟨rfl,rfl,rfl,xR _,λ_ _=>rfl⟩
theorem Grew.cell {w w'}(h:Grew w w'){a}(ha:a.block<w.heap.size):w'.cell? a=w.cell? a:=vH (w:=w) (h.old _ ha)
theorem Grew.frozen {w w'}(h:Grew w w'){a}(ha:a.block<w.heap.size):w'.frozen? a=w.frozen? a:=uF (w:=w) (h.old _ ha)
theorem Grew.below {w w'}(h:Grew w w'){B}(hB:B<=w.heap.size):Below B w w':=⟨h.os,h.tape,h.output,h.size,λk hk=>h.old k zy⟩
theorem Sim.base {B0 w0 K h w}(S:Sim B0 w0 K h w):B0<=w.heap.size:=wg S.size0.1 S.below.size
theorem a4h {B0 w0 K h w w'}(S:Sim B0 w0 K h w)(G:Grew w w'):Sim B0 w0 K h w':=by refine⟨S.size0,S.below.trans (G.below S.base),λb g l q=>⟨xI (S.dom b g l q) G.size,(S.dom' b g l q).2⟩,S.dom2,S.own,S.apart,S.same,?_,S.gens,?_,?_,?_,S.gen0⟩;intro b g l cs cur ro q1 q2 q3;obtain⟨c,e,fz,r1,r2,r3⟩:=S.room b g l cs cur ro q1 q2 q3;exact⟨c,e,fz,by rw[G.old _ (S.dom b g l q1)];exact r1,r2,λo ho=>by rw[G.frozen (S.dom b g l q1)];grind⟩;intro b cs cur ro g l q1 q2 off v st q3 q4 q5;obtain⟨v',r1,r2⟩:=S.cells b cs cur ro g l q1 q2 off v st q3 q4 q5;exact⟨v',by rw[G.cell (S.dom b g l q2)];exact r1,r2⟩;intro b es q;obtain⟨l,es',clock,r1,r2,r3,r4⟩:=S.map b es q;exact⟨l,es',clock,r1,r2,by rw[G.old _ (S.dom b 0 l r1)];exact r3,r4⟩;intro b x pos q;obtain⟨l,r1,r2,r3,r4,r5⟩:=S.siter b x pos q;exact⟨l,r1,r2,r3,r4,by rw[G.old _ (S.dom b 0 l r1)];exact r5⟩
theorem MR.mono {K K'}(h:K.le K'){a b}(r:MR K a b):MR K' a b:=⟨r.len,λi e' e q q'=>⟨(r.key i e' e q q').1,(r.key i e' e q q').2.mono h⟩⟩
theorem b5h {B0 w0 K h h' w}(S:Sim B0 w0 K h w){c l o}(hK:∀g,K c g=none)(hh:∀j,h'.get j=if j=c then some o else h.get j)(hl:l.blk<w.heap.size)(hB:B0<=l.blk)(hown:l.own=true)(hfresh:∀b g l',K b g=some l'->l'.blk≠l.blk)(hcells:∀cs cur ro,o=.cells cs cur ro->cur=0/\ro=false/\(∀x∈cs,x.2=0)/\l.lo=0/\(∃a e fz,w.heap[l.blk]?=some (.cells a e fz)/\a.size=l.sz/\∀o,o<l.sz->w.frozen? ⟨l.blk,o,none⟩=false)/\∀(off) v st,cs[off]?=some (v,st)->∃v',w.cell? ⟨l.blk,l.at_+off,none⟩=some v'/\VR K v' v)(hmap:∀es,o=.map es->∃es' clock,w.heap[l.blk]?=some (.map es' clock)/\MR K es'.toList es)(hiter:∀x pos,o=.siter x pos->l.lo=0/\l.at_=0/\w.heap[l.blk]?=some (.stringIter x pos)):Sim B0 w0 (K.put c 0 l) h' w:=by
 have hle:K.le (K.put c 0 l):=KM.le_put K l (hK 0);have hc:h'.get c=some o:=yC;have hn:∀j,j≠c->h'.get j=h.get j:=λj hj=>yA;have hput:∀b g l',(K.put c 0 l) b g=some l'->(b=c/\g=0/\l'=l)\/(b≠c/\K b g=some l'):=by grind[KM.put_inv]
 refine⟨S.size0,S.below,?_,?_,?_,?_,?_,?_,?_,?_,?_,?_,(λb g l1 q hnc=>by rcases hput b g l1 q with⟨_,e,_⟩|⟨n1,q1⟩;exact e;exact S.gen0 b g l1 q1 (λcs cur ro e=>hnc cs cur ro (by rw[hn b n1];exact e)))⟩;intro b g l' q;rcases hput b g l' q with⟨_,_,rfl⟩|⟨_,q⟩;exact⟨hl,S.size0.2 _ hB⟩;exact S.dom' b g l' q;intro b g l' q;rcases hput b g l' q with⟨e,_,_⟩|⟨hne,q⟩;simp_all;rw[hn b hne];exact S.dom2 b g l' q;intro b g l' q q2;rcases hput b g l' q with⟨_,_,rfl⟩|⟨_,q⟩;exact hB;exact S.own b g l' q q2;intro b g l1 b' g' l2 q1 q2 hne ho;rcases hput b g l1 q1 with⟨e1,_,e2⟩|⟨_,p1⟩<;>rcases hput b' g' l2 q2 with⟨e3,_,e4⟩|⟨_,p2⟩;omega;rw[e2];grind;rw[e4];grind;exact S.apart b g l1 b' g' l2 p1 p2 hne ho;intro b g l1 g' l2 q1 q2;rcases hput b g l1 q1 with⟨rfl,rfl,rfl⟩|⟨n1,q1⟩<;>rcases hput b g' l2 q2 with⟨e,rfl,rfl⟩|⟨n2,q2⟩;simp_all;omega;omega;exact S.same b g l1 g' l2 q1 q2;intro b g l1 cs cur ro q1 q2 q3;rcases hput b g l1 q1 with⟨rfl,rfl,rfl⟩|⟨n1,q1⟩;rw[hc]at q3;simp_all;rw[hn b n1]at q3;exact S.room b g l1 cs cur ro q1 q2 q3;intro b cs cur ro q;by_cases hb:b=c;subst hb;rw[hc]at q;cases q;obtain⟨rfl,rfl,e3,e4,e5,e6⟩:=hcells cs cur ro rfl;refine⟨λg l1 q1=>?_,λg hg=>⟨l,by rw[tG.1 hg];exact KM.put_same K b 0 l⟩,λx hx=>by rw[e3 x hx];omega⟩;grind;rw[hn b hb]at q;obtain⟨r1,r2,r3⟩:=S.gens b cs cur ro q;refine⟨λg l1 q1=>?_,λg hg=>let⟨l1,r⟩:=r2 g hg;⟨l1,hle _ _ _ r⟩,r3⟩;grind;intro b cs cur ro g l1 q1 q2 off v st q3 q4 q5;rcases hput b g l1 q2 with⟨rfl,rfl,rfl⟩|⟨n1,q2⟩;rw[hc]at q1;cases q1;obtain⟨rfl,rfl,e3,e4,e5,e6⟩:=hcells cs cur ro rfl;obtain⟨v',r1,r2⟩:=e6 off v st q3;exact⟨v',by rw[e4,uJ];exact r1,r2.mono hle⟩;rw[hn b n1]at q1;obtain⟨v',r1,r2⟩:=S.cells b cs cur ro g l1 q1 q2 off v st q3 q4 q5;exact⟨v',r1,r2.mono hle⟩;intro b es q;by_cases hb:b=c;subst hb;rw[hc]at q;cases q;obtain⟨es',clock,r1,r2⟩:=hmap es rfl;exact⟨l,es',clock,KM.put_same K b 0 l,hown,r1,r2.mono hle⟩;rw[hn b hb]at q;obtain⟨l1,es',clock,r1,r2,r3,r4⟩:=S.map b es q;exact⟨l1,es',clock,hle _ _ _ r1,r2,r3,r4.mono hle⟩;intro b x pos q;by_cases hb:b=c;subst hb;rw[hc]at q;cases q;obtain⟨r1,r2,r3⟩:=hiter x pos rfl;grind[KM.put_same];rw[hn b hb]at q;obtain⟨l1,r1,r2,r3,r4,r5⟩:=S.siter b x pos q;exact⟨l1,hle _ _ _ r1,r2,r3,r4,r5⟩
structure Step (B0:Nat) (w0:Base) (K:KM) (s':S) (w':World) (K':KM):Prop where
 le:K.le K'
 far:∀ i g,s'.c≤i→K' i g=K i g
 sim:Sim B0 w0 K' s'.h w'
def Q0 (_:KM)(s s':S):Prop:=∀i,s.c<=i->i<s'.c->s.h.get i=none
theorem Sim.none {B0:Nat}{w0:Base}{K:KM}{h:Trie VObj}{w:World}(S:Sim B0 w0 K h w){i:Nat}(hi:h.get i=none)(g:Nat):K i g=none:=by cases q:K i g with|none=>rfl|some l=>obtain⟨o,e⟩:=S.dom2 i g l q;rw[hi]at e;cases e
theorem a8k {vs s s' a}(h:M5 vs s=some (a,s')):(∀v∈vs,D5 v=true)/\a=⟨s.c,0,some 0⟩/\s'.c=s.c+1/\∀j,s'.h.get j=if j=s.c then some (.cells (vs.map λv=>(v,0)) 0 false)else s.h.get j:=by unfold M5 at h;cases hg:A9 D5 vs with|false=>rw[hg]at h;cases h|true=>rw[hg]at h;simp only[M.guard,M4,S9,M.bind,b1v,M.pure]at h;cases h;exact⟨(C9 _ _).1 hg,rfl,rfl,λj=>Trie.get_put _ _ _ _ (xG _) j⟩
theorem a3T {B0 w0 K w w' vs vs' s s' a}(h:M5 vs s=some (a,s'))(S:Sim B0 w0 K s.h w)(F:Q0 K s s')(hv:VRL K vs' vs){arr}{e}{fz}(G:Grew w w')(hblk:w'.heap[w.heap.size]?=some (.cells arr e fz)){rest}(harr:arr.toList=vs'++rest)(hfz:∀o,o<arr.size->¬(fz.1<=o/\o<fz.2)):∃K',Step B0 w0 K s' w' K'/\K' s.c 0=some ⟨w.heap.size,0,0,arr.size,true⟩/\a=⟨s.c,0,some 0⟩:=by
 obtain⟨h1,h2,h3,h4⟩:=a8k h;have S':=a4h S G;have hK:∀g,K s.c g=none:=S.none (F s.c (xR _) zy);have hlt:w.heap.size<w'.heap.size:=(uM.1 hblk).1;refine⟨K.put s.c 0 ⟨w.heap.size,0,0,arr.size,true⟩,⟨KM.le_put K _ (hK 0),?_,?_⟩,KM.put_same _ _ _ _,h2⟩;grind[KM.put_other];refine b5h (o:=.cells (vs.map λv=>(v,0)) 0 false) S' hK h4 hlt S.base rfl (λb g l q=>by have:=S.dom b g l q;grind) ?_ (λes q=>zk) (λx pos q=>zk);intro cs cur ro q;cases q;refine⟨rfl,rfl,λx hx=>?_,rfl,⟨arr,e,fz,hblk,rfl,λo ho=>?_⟩,?_⟩;grind;grind[World.frozen?];intro off v st q;rw[wc]at q;cases hvo:vs[off]? with
  |none=>rw[hvo]at q;cases q|some y=>
   rw[hvo]at q;cases q;have hlt:off<vs'.length:=by rw[hv.len];grind
   refine⟨vs'[off],?_,hv.at_ _ _ _ (xP hlt) hvo⟩;simp only[World.cell?,hblk,wt];have:arr[off]?=some vs'[off]:=by rw[<-tg,harr,wh hlt];simp_all
   simp_all
theorem c7E {B0 w0 K h h' w}(S:Sim B0 w0 K h w){b n cur cs ro}(ho:h.get b=some (.cells cs cur ro))(hh:∀j,h'.get j=if j=b then some (.cells (cs.take n) cur ro)else h.get j):Sim B0 w0 K h' w:=by
 have hb:h'.get b=some (.cells (cs.take n) cur ro):=yC;have hn:∀j,j≠b->h'.get j=h.get j:=λj hj=>yA;refine⟨S.size0,S.below,S.dom',λb2 g2 l2 q=>yG,S.own,S.apart,S.same,?_,?_,?_,?_,?_,(λb2 g2 l2 q hnc=>by by_cases hx:b2=b;simp_all;exact S.gen0 b2 g2 l2 q (λcs cur ro e=>hnc cs cur ro (by rw[hn b2 hx];exact e)))⟩;intro b2 g l cs2 cur2 ro2 q1 q2 q3;by_cases hb2:b2=b;subst hb2;exact S.room b2 g l cs cur ro q1 q2 ho;rw[hn b2 hb2]at q3;exact S.room b2 g l cs2 cur2 ro2 q1 q2 q3;intro b2 cs2 cur2 ro2 q;by_cases hb2:b2=b;subst hb2;rw[hb]at q;cases q;obtain⟨r1,r2,r3⟩:=S.gens b2 cs cur ro ho;grind;rw[hn b2 hb2]at q;exact S.gens b2 cs2 cur2 ro2 q;intro b2 cs2 cur2 ro2 g l q1 q2 off v st q3 q4 q5;by_cases hb2:b2=b;subst hb2;rw[hb]at q1;cases q1;rw[vY]at q3;split at q3;exact S.cells b2 cs cur ro g l ho q2 off v st q3 q4 q5;cases q3;rw[hn b2 hb2]at q1;exact S.cells b2 cs2 cur2 ro2 g l q1 q2 off v st q3 q4 q5;intro b2 es q;have hb2:b2≠b:=λe=>by rw[e,hb]at q;cases q
 rw[hn b2 hb2]at q;exact S.map b2 es q;intro b2 x pos q;have hb2:b2≠b:=λe=>by rw[e,hb]at q;cases q
 rw[hn b2 hb2]at q;exact S.siter b2 x pos q
theorem c2G {B0 w0 K h w w'}(S:Sim B0 w0 K h w){b g cur o l cs vs'}(ho:h.get b=some (.cells cs cur false))(hk:K b g=some l)(hlo:l.lo<=cs.length)(hoo:o=l.at_+(cs.length-l.lo))(u:Upd w w' l.blk o vs'):Sim B0 w0 K h w':=by
 obtain⟨hg1,hg2,hg3⟩:=S.gens b cs cur false ho;have hown:l.own=true:=(hg1 g l hk).2 rfl;obtain⟨c,e,fz,hc1,hc2,hc3⟩:=S.room b g l cs cur false hk hown ho;refine⟨S.size0,S.below.trans (u.below (S.own b g l hk hown)),λb2 g2 l2 q=>by rw[u.size];exact S.dom' b2 g2 l2 q,S.dom2,S.own,S.apart,S.same,?_,S.gens,?_,?_,?_,S.gen0⟩;intro b2 g2 l2 cs2 cur2 ro2 q1 q2 q3;exact u.room (S.room b2 g2 l2 cs2 cur2 ro2 q1 q2 q3) hc1;intro b2 cs2 cur2 ro2 g2 l2 q1 q2 off v st q3 q4 q5;obtain⟨v',r1,r2⟩:=S.cells b2 cs2 cur2 ro2 g2 l2 q1 q2 off v st q3 q4 q5;refine⟨v',?_,r2⟩;rw[u.cell_other hc1 _ ?_];exact r1;by_cases hb2:b2=b;subst hb2;rw[ho]at q1;cases q1;by_cases hbk:l2.blk=l.blk;right;have e1:=(S.same b2 g l g2 l2 hk q2).2 hbk.symm;have e2:off<cs.length:=(xQ.1 q3).1;grind;simp_all;exact Or.inl (S.apart b g l b2 g2 l2 hk q2 (tJ hb2) hown).symm;intro b2 es q;have hb2:b2≠b:=λe=>by rw[e,ho]at q;cases q
 obtain⟨l2,es',clock,r1,r2,r3,r4⟩:=S.map b2 es q;exact⟨l2,es',clock,r1,r2,by rw[u.other _ (S.apart b g l b2 0 l2 hk r1 (tJ hb2) hown).symm];exact r3,r4⟩;intro b2 x pos q;have hb2:b2≠b:=λe=>by rw[e,ho]at q;cases q
 obtain⟨l2,r1,r2,r3,r4,r5⟩:=S.siter b2 x pos q;exact⟨l2,r1,r2,r3,r4,by rw[u.other _ (S.apart b g l b2 0 l2 hk r1 (tJ hb2) hown).symm];exact r5⟩
theorem c2m {B0 w0 K h h' w}(S:Sim B0 w0 K h w){b cur l cs}{vs:List Value}(ho:h.get b=some (.cells cs cur false))(hh:∀j,h'.get j=if j=b then some (.cells (cs++vs.map λv=>(v,cur+1)) (cur+1) false)else h.get j)(hown:l.own=true)(hl:l.blk<w.heap.size)(hB:B0<=l.blk)(hsame:∀g2 l2,K b g2=some l2->l2.blk=l.blk->l2.at_+l.lo=l.at_+l2.lo)(hapart:∀b2 g2 l2,b2≠b->K b2 g2=some l2->l2.blk≠l.blk)(hroom:∃a e fz,w.heap[l.blk]?=some (.cells a e fz)/\a.size=l.sz/\∀o,o<l.sz->w.frozen? ⟨l.blk,o,none⟩=false)(hcl:∀(off) v st,l.lo<=off->(cs++vs.map λv=>(v,cur+1))[off]?=some (v,st)->∃v',w.cell? ⟨l.blk,l.at_+(off-l.lo),none⟩=some v'/\VR K v' v):Sim B0 w0 (K.put b (cur+1) l) h' w/\K.le (K.put b (cur+1) l):=by
 obtain⟨hg1,hg2',hg3⟩:=S.gens b cs cur false ho;obtain⟨l0,hg2⟩:=hg2' cur (xR _);have hnone:K b (cur+1)=none:=by cases q:K b (cur+1)with|none=>rfl|some l1=>have:=(hg1 _ l1 q).1;omega
 have hle:K.le (K.put b (cur+1) l):=KM.le_put K l hnone;have hb:h'.get b=some (.cells (cs++vs.map λv=>(v,cur+1)) (cur+1) false):=yC;have hn:∀j,j≠b->h'.get j=h.get j:=λj hj=>yA;refine⟨⟨S.size0,S.below,?_,?_,?_,?_,?_,?_,?_,?_,?_,?_,λb2 g2 l2 q hnc=>by by_cases hx:b2=b;simp_all;rcases KM.put_inv q with⟨e1,_,_⟩|p1;omega;exact S.gen0 b2 g2 l2 p1 (λcs cur ro e=>hnc cs cur ro (by rw[hn b2 hx];exact e))⟩,hle⟩;intro b2 g l' q;rcases KM.put_inv q with⟨_,_,e⟩|q;rw[e];exact⟨hl,S.size0.2 _ hB⟩;exact S.dom' b2 g l' q;intro b2 g l' q;by_cases hx:b2=b;simp_all;rw[hn b2 hx];rcases KM.put_inv q with⟨e,_,_⟩|q;omega;exact S.dom2 b2 g l' q;intro b2 g l' q q2;rcases KM.put_inv q with⟨_,_,e⟩|q;rw[e];exact hB;exact S.own b2 g l' q q2;intro b1 g1 l1 b2 g2 l2 q1 q2 hne hx;rcases KM.put_inv q1 with⟨e1,_,e2⟩|p1<;>rcases KM.put_inv q2 with⟨e3,_,e4⟩|p2;omega;rw[e2];grind;rw[e4];grind;exact S.apart b1 g1 l1 b2 g2 l2 p1 p2 hne hx;intro b1 g1 l1 g2 l2 q1 q2;rcases KM.put_inv q1 with⟨e1,_,e2⟩|p1<;>rcases KM.put_inv q2 with⟨e3,_,e4⟩|p2;rw[e2,e4];simp_all;rw[e1]at p2;rw[e2];grind;rw[e3]at p1;rw[e4];grind;exact S.same b1 g1 l1 g2 l2 p1 p2;intro b2 g l1 cs2 cur2 ro2 q1 q2 q3;by_cases hb2:b2=b;subst hb2;rcases KM.put_inv q1 with⟨_,_,e2⟩|p1;rw[e2];exact hroom;exact S.room b2 g l1 cs cur false p1 q2 ho;rcases KM.put_inv q1 with⟨e1,_,_⟩|p1;omega;rw[hn b2 hb2]at q3;exact S.room b2 g l1 cs2 cur2 ro2 p1 q2 q3;intro b2 cs2 cur2 ro2 q;by_cases hb2:b2=b;subst hb2;rw[hb]at q;cases q;refine⟨λg l1 q1=>?_,λg hg=>(Nat.lt_or_eq_of_le hg).elim (λh=>let⟨l1,r⟩:=hg2' g zy;⟨l1,hle _ _ _ r⟩) (λh=>⟨l,by rw[h];exact KM.put_same _ _ _ _⟩),λc hc=>?_⟩;rcases KM.put_inv q1 with⟨_,e,e2⟩|p1;rw[e,e2];simp_all;grind;grind;rw[hn b2 hb2]at q;obtain⟨r1,r2,r3⟩:=S.gens b2 cs2 cur2 ro2 q;refine⟨λg l1 q1=>?_,λg hg=>let⟨l1,r⟩:=r2 g hg;⟨l1,hle _ _ _ r⟩,r3⟩;grind[KM.put_inv];intro b2 cs2 cur2 ro2 g l1 q1 q2 off v st q3 q4 q5;by_cases hb2:b2=b;subst hb2;rw[hb]at q1;cases q1;rcases KM.put_inv q2 with⟨_,e,e2⟩|p2;subst e2;obtain⟨v',r1,r2⟩:=hcl off v st q5 q3;exact⟨v',r1,r2.mono hle⟩;have hg:=(hg1 g l1 p2).1;have hlt:off<cs.length:=zr;rw[wh hlt]at q3;obtain⟨v',r1,r2⟩:=S.cells b2 cs cur false g l1 ho p2 off v st q3 q4 q5;exact⟨v',r1,r2.mono hle⟩;rcases KM.put_inv q2 with⟨e1,_,_⟩|p2;omega;rw[hn b2 hb2]at q1;obtain⟨v',r1,r2⟩:=S.cells b2 cs2 cur2 ro2 g l1 q1 p2 off v st q3 q4 q5;exact⟨v',r1,r2.mono hle⟩;intro b2 es q;have hb2:b2≠b:=λe=>by rw[e,hb]at q;cases q
 rw[hn b2 hb2]at q;obtain⟨l1,es',clock,r1,r2,r3,r4⟩:=S.map b2 es q;exact⟨l1,es',clock,hle _ _ _ r1,r2,r3,r4.mono hle⟩;intro b2 x pos q;have hb2:b2≠b:=λe=>by rw[e,hb]at q;cases q
 rw[hn b2 hb2]at q;obtain⟨l1,r1,r2,r3,r4,r5⟩:=S.siter b2 x pos q;exact⟨l1,hle _ _ _ r1,r2,r3,r4,r5⟩
theorem b9g {e a len m vs s s' v}(h:appendAt e a len vs m s=some (v,s')):∃g cs cur olds,a.spot=some g/\s.h.get a.block=some (.cells cs cur false)/\a.off+len*e.size<=cs.length/\j8 g (cs.drop a.off) (len*e.size)=some olds/\s'.c=s.c/\(∀j,s'.h.get j=if j=a.block then some (.cells (cs.take (a.off+len*e.size)++vs.map λv=>(v,cur+1)) (cur+1) false)else s.h.get j)/\v=.slice (some ⟨a.block,a.off,some (cur+1)⟩) (len+m) e.size:=by
 unfold appendAt at h;cases hg:a.spot with
  |none=>rw[hg]at h;cases h|some g=>
   rw[hg]at h;simp only[M.obind,M.bind,rd]at h;cases hb:Nat.blt a.block s.c with
    |false=>rw[hb]at h;cases h|true=>
     rw[hb]at h;cases ho:s.h.get a.block with
      |none=>rw[ho]at h;cases h|some o=>
       rw[ho]at h;cases o with
        |cells cs cur ro=>simp only[a5h,Q8,a0k,S9,v8,y9]at h;cases ro with|true=>cases h|false=>simp only[vt,M.guard]at h;cases hgd:Nat.ble (a.off+len*e.size) cs.length with|false=>rw[hgd]at h;cases h|true=>rw[hgd]at h;cases ht:j8 g (cs.drop a.off) (len*e.size)with|none=>rw[ht]at h;cases h|some olds=>rw[ht]at h;simp only[M4]at h;obtain⟨u,s1,hx,h⟩:=o7 h;obtain⟨_,w2,w3⟩:=b3Z hx;cases h;exact⟨g,cs,cur,olds,rfl,rfl,wk hgd,ht,w2,w3,rfl⟩
        |map es=>cases h|siter x y=>cases h
end Go.V
end
