import Derived.Test.YtmomonnlmbljoaaGreatDoorHab
set_option maxRecDepth 1000000
set_option maxHeartbeats 4000000
set_option linter.unusedVariables false
set_option linter.unusedSimpArgs false
section
namespace Go.V
open Go.RowKit (Below)
theorem b4p {n:Nat}(h:(!(Nat.beq n 0))=true):n≠0:=by intro e;simp_all
structure TabOk (P:Program) (T:Tab):Prop where
 types:∀ t i,T.types.get t=some i→∃ info,P.info? t=some info∧P.underlying t=some i.und∧info.size=i.size∧info.bytes=i.bytes∧info.zero=some i.zero∧i.zero.cells.size=i.size
 funcs:∀ f fn,T.funcs.get f=some fn→P.funcs[f]?=some fn∧(fn.name == "runtime.NumGoroutine")=false
def GK (T:Tab)(K:KM):Prop:=∀g,g<T.ng->∃l,K g 0=some l/\l.blk=g/\l.lo=0/\l.at_=0
theorem GK.mono {T K K'}(h:GK T K)(hle:K.le K'):GK T K':=λg hg=>let⟨l,e,r⟩:=h g hg;⟨l,hle _ _ _ e,r⟩
theorem T5 {K}:∀(n) (v),C1 n v=true->VR K v v:=by intro n;induction n with|zero=>intro v h;cases h|succ n ih=>intro v h;cases v with|agg cs=>have h':A9 (C1 n) cs.toList=true:=h;rw[C9]at h';exact .agg rfl λi v' v e e'=>by rw[e]at e';grind|tuple cs=>have h':A9 (C1 n) cs.toList=true:=h;rw[C9]at h';exact .tuple rfl λi v' v e e'=>by rw[e]at e';grind|iface t v=>exact .iface (ih v h)|func fn a b=>cases h|_=>exact .plain h
theorem VR.eq_of_plain {K v' v}(r:VR K v' v)(h:V.plain v=true):v'=v:=by cases r with|plain _=>rfl|ptr _ _=>simp[V.plain]at h|slice _ _ _ _ _ _=>simp[V.plain]at h|map _=>simp[V.plain]at h|_=>simp[V.plain]at h
theorem VR.eq_of_noAddr {K v' v}(r:VR K v' v):∀n,C1 n v=true->v'=v:=by
 induction r with
  |plain _=>grind|ptr _ _=>intro n h;cases n<;>simp[C1,V.plain]at h|slice _ _ _ _ _ _=>intro n h;cases n<;>simp[C1,V.plain]at h|map _=>intro n h;cases n<;>simp[C1,V.plain]at h| @agg cs' cs hl _ ih=>intro n h;cases n with|zero=>cases h|succ n=>have h':A9 (C1 n) cs.toList=true:=h;rw[C9]at h';congr 1;apply sw;apply wE;grind[List.getElem_mem]
  | @tuple cs' cs hl _ ih=>intro n h;cases n with|zero=>cases h|succ n=>have h':A9 (C1 n) cs.toList=true:=h;rw[C9]at h';congr 1;apply sw;apply wE;grind[List.getElem_mem]
  |func _ _ _ _ _ _=>intro n h;cases n<;>cases h|iface _ ih=>intro n h;cases n with|zero=>cases h|succ n=>rw[ih n h]
theorem E3 {T K}{a:Act}{fr}(hf:VRL K a.tmps.toList fr)(hg:GK T K){x v}(h:K4 T fr x=some v):VR K (a.eval x) v:=by cases x with|tmp t=>cases h;have:=hf.lget t;rw[a1Y a.tmps.toList]at this;grind[Act.eval,Array.getD_eq_getD_getElem?]|const c=>have h':(match C1 3 c with|true=>some c|false=>none)=some v:=h;split at h';rename_i hn;cases h';exact T5 _ _ hn;cases h'|global g=>have h':(match Nat.blt g T.ng with|true=>some (Value.pointer (some ⟨g,0,some 0⟩))|false=>none)=some v:=h;split at h';rename_i hn;cases h';obtain⟨l,e1,e2,e3,e4⟩:=hg g zq;have:=VR.ptr (off:=0) e1 zy;rw[e2,e3,e4]at this;exact this;cases h'|func f=>cases h;exact .func rfl (λi v' v e=>by simp at e) rfl (λi v' v e=>by simp at e)
theorem a3V {T K}{a:Act}{fr}(hf:VRL K a.tmps.toList fr)(hg:GK T K):∀{xs} {vs},T0 T fr xs=some vs->VRL K (xs.map a.eval) vs:=by intro xs;induction xs with|nil=>intro vs h;cases h;exact VRL.nil K|cons x xs ih=>grind[T0,VRL.cons,E3]
def G9 (P:Program)(B0:Nat)(w0:Base)(K:KM)(s':S)(x:Sem Next)(w:World)(v:Value):Prop:=∃n w' K',x.run P w=.ok n w'/\Step B0 w0 K s' w' K'/\((∃v',n=.value v'/\VR K' v' v)\/(n=.skip/\v=undef))
section
variable {P:Program}{T:Tab}{B0:Nat}{w0:Base}{w:World}{K:KM}{s s':S}{a:Act}{fr:List Value}{v:Value}
theorem Step.same {s1}(S:Sim B0 w0 K s.h w)(h:s1.h=s.h):Step B0 w0 K s1 w K:=⟨KM.le_refl K,λ_ _ _=>rfl,by rw[h];exact S⟩
theorem G9.quiet {x v'}(S:Sim B0 w0 K s.h w)(hs:s'.h=s.h)(hx:x.run P w=.ok v' w)(r:VR K v' v):G9 P B0 w0 K s' (do pure (Next.value (<-x))) w v:=⟨.value v',w,K,by simp[hx],Step.same S hs,Or.inl ⟨v',rfl,r⟩⟩
theorem G9.step {x v' w' K'}(hx:x.run P w=.ok v' w')(st:Step B0 w0 K s' w' K')(r:VR K' v' v):G9 P B0 w0 K s' (do pure (Next.value (<-x))) w v:=⟨.value v',w',K',by simp[hx],st,Or.inl ⟨v',rfl,r⟩⟩
theorem a4K {α}{x:Sem α}{y}(h:R6 P x=some y)(w):x.run P w=.ok y w:=by induction x with|pure a=>cases h;rfl|program k ih=>exact ih P h|mark m k ih=>exact ih h|_=>cases h
theorem N6 {x k}(h:ev T fr x k s=some (v,s')):∃u,K4 T fr x=some u/\k u s=some (v,s'):=x8 h
theorem a4y {xs k}(h:evs T fr xs k s=some (v,s')):∃us,T0 T fr xs=some us/\k us s=some (v,s'):=x8 h
theorem J8 {α t}{k:TI->M α}{u}(h:ti T t k s=some (u,s')):∃i,T.types.get t=some i/\k i s=some (u,s'):=x8 h
theorem a0S {α x}{k:Addr->M α}{u}(h:R5 x k s=some (u,s')):∃ad,x=.pointer (some ad)/\k ad s=some (u,s'):=by cases x with|pointer o=>obtain⟨ad,e,h⟩:=x8 h;simp_all|_=>cases h
theorem a6Z {x' ad}(r:VR K x' (.pointer (some ad))):∃ad',x'=.pointer (some ad')/\VR K (.pointer (some ad')) (.pointer (some ad)):=by generalize hv:Value.pointer (some ad)=x at r;cases r with|plain hp=>grind[V.plain]|ptr hk hl=>cases hv;exact⟨_,rfl,.ptr hk hl⟩|_=>cases hv
theorem VR.fwd {ad ad':Addr}(r:VR K (.pointer (some ad')) (.pointer (some ad)))(n:Nat):VR K (.pointer (some (ad'.add n))) (.pointer (some (fwd ad n))):=by obtain⟨g,l,e1,e2,e3,rfl⟩:=a6p r;rw[a7b];obtain⟨b,off,sp⟩:=ad;cases e1;have:=VR.ptr (off:=off+n) e2 zr;rw[show l.at_+(off+n-l.lo)=l.at_+(off-l.lo)+n by grind]at this;exact this
theorem VR.cells {v' v}(r:VR K v' v):VRL K v'.cells.toList v.cells.toList:=by
 cases r with
  |agg hl ih=>exact⟨hl,ih⟩|plain hp=>cases v' with|agg cs=>simp[V.plain]at hp|_=>exact VRL.cons (.plain hp) (VRL.nil K)
  |ptr h1 h2=>exact VRL.cons (.ptr h1 h2) (VRL.nil K)|slice h1 h2 h3 h4 h5 h6=>exact VRL.cons (.slice h1 h2 h3 h4 h5 h6) (VRL.nil K)|map h1=>exact VRL.cons (.map h1) (VRL.nil K)|tuple h1 h2=>exact VRL.cons (.tuple h1 h2) (VRL.nil K)|func h1 h2 h3 h4=>exact VRL.cons (.func h1 h2 h3 h4) (VRL.nil K)|iface h=>exact VRL.cons (.iface h) (VRL.nil K)
theorem b5M (hT:TabOk P T){t:TypeId}{i}(h:T.types.get t=some i)(w):(isAgg t).run P w=.ok (a8i i.und) w:=by obtain⟨info,h1,h2,_⟩:=hT.types t i h;unfold isAgg;simp only[wv,run_underlying h2,xD];cases i.und<;>rfl
theorem T8 (hT:TabOk P T){t:TypeId}{i}(h:T.types.get t=some i)(w):(sizeOf t).run P w=.ok i.size w:=by obtain⟨info,h1,h2,h3,_⟩:=hT.types t i h;simp[sizeOf,typeInfo,h1,h3]
theorem M8 (hT:TabOk P T){t:TypeId}{i}(h:T.types.get t=some i)(w):(underlying t).run P w=.ok i.und w:=by obtain⟨info,h1,h2,_⟩:=hT.types t i h;exact run_underlying h2 w
theorem a7I (hT:TabOk P T){t:TypeId}{i}(h:T.types.get t=some i)(w):(zeroValue t).run P w=.ok i.zero w:=by obtain⟨info,h1,h2,h3,h4,h5,h6⟩:=hT.types t i h;simp[zeroValue,typeInfo,h1,h5]
theorem b5E (hT:TabOk P T){t ad ad' u}(h:a2F T t ad s=some (u,s'))(S:Sim B0 w0 K s.h w)(r:VR K (.pointer (some ad')) (.pointer (some ad))):∃u',(loadVar t ad').run P w=.ok u' w/\VR K u' u/\s'.h=s.h/\s'.c=s.c:=by
 obtain⟨i,hi,h⟩:=J8 h;unfold loadVar;simp only[wv,b5M hT hi,xD];cases hag:a8i i.und with
  |true=>rw[hag]at h;obtain⟨_,h⟩:=y8 h;obtain⟨vs,s1,h1,h2⟩:=o7 h;obtain⟨e1,e2⟩:=j7 h2;obtain⟨vs',r1,r2,r3,r4,r5⟩:=b1b (P:=P) h1 S r;refine⟨.agg vs'.toArray,?_,?_,by rw[e2,r5],by rw[e2,r4]⟩;simp[T8 hT hi,r1];rw[e1];exact .agg xu xr|false=>
   rw[hag]at h;obtain⟨vs,s1,h1,h2⟩:=o7 h;obtain⟨e1,e2⟩:=j7 h2;obtain⟨vs',r1,r2,r3,r4,r5⟩:=b1b (P:=P) h1 S r;refine⟨r6 vs' 0,?_,by rw[e1];exact r2.lget 0,by rw[e2,r5],by rw[e2,r4]⟩;obtain⟨x,rfl⟩:∃x,vs'=[x]:=by match vs',r3 with|[x],_=>simp_all
   have hadd:ad'.add 0=ad':=rfl;simp only[wL,vN];simp only[loadCells,loadCellsFrom,wv,hadd]at r1;rw[run_load]at r1⊢;cases hc:w.cell? ad' with|some y=>rw[hc]at r1;simp at r1;rw[r1];rfl|none=>rw[hc]at r1;cases hf:w.farLoad P ad' (Mode.plain==Mode.atomic)with|ok z=>rw[hf]at r1;cases z;simp at r1⊢;rw[r1];rfl|error z=>rw[hf]at r1;simp at r1
theorem c4P (hT:TabOk P T){t ad ad' u u' un}(h:b3O T t ad u s=some (un,s'))(S:Sim B0 w0 K s.h w)(r:VR K (.pointer (some ad')) (.pointer (some ad)))(hu:VR K u' u):∃w',(storeVar t ad' u').run P w=.ok () w'/\Sim B0 w0 K s'.h w'/\s'.c=s.c:=by
 obtain⟨i,hi,h⟩:=J8 h;obtain⟨hg,h⟩:=y8 h;simp only[xM,vS,y9]at hg;have hn:=xS hg.2;have hc:=hu.cells;have hpos:0<u.cells.toList.length:=zr;obtain⟨w',r1,r2,r3⟩:=c3L (P:=P) h S hpos r hc;refine⟨w',?_,r2,r3⟩;have hs:u'.cells.size=i.size:=by rw[<-vu,hc.len,hn]
 simp[storeVar,T8 hT hi,hs,r1]
end
end Go.V
end
section
namespace Go.V
open Go.RowKit (Below)
section
variable {P:Program}{T:Tab}{B0:Nat}{w0:Base}{w:World}{K:KM}{s s':S}{a:Act}{fr:List Value}{v:Value}
theorem c2d {x}(h:M.lift (K4 T fr x) s=some (v,s'))(S:Sim B0 w0 K s.h w)(hf:VRL K a.tmps.toList fr)(hg:GK T K):G9 P B0 w0 K s' (pure (Next.value (a.eval x))) w v:=by obtain⟨h1,rfl⟩:=a1j h;exact⟨_,w,K,rfl,Step.same S rfl,Or.inl ⟨_,rfl,E3 hf hg h1⟩⟩
theorem d2Q {c x y}(h:a8a T fr c x y s=some (v,s'))(S:Sim B0 w0 K s.h w)(hf:VRL K a.tmps.toList fr)(hg:GK T K):G9 P B0 w0 K s' (do pure (Next.value (if<-asBool (a.eval c)then a.eval x else a.eval y))) w v:=by
 obtain⟨vc,e1,q0h⟩:=N6 h;obtain⟨va,e2,q1h⟩:=N6 q0h;obtain⟨vb,e3,q2h⟩:=N6 q1h;have r1:=E3 hf hg e1;have r2:=E3 hf hg e2;have r3:=E3 hf hg e3;cases vc with
  |bool t=>have:=r1.eq_of_plain rfl;rw[this];cases t with|true=>obtain⟨rfl,rfl⟩:=j7 q2h;exact⟨_,w,K,rfl,Step.same S rfl,Or.inl ⟨_,rfl,r2⟩⟩|false=>obtain⟨rfl,rfl⟩:=j7 q2h;exact⟨_,w,K,rfl,Step.same S rfl,Or.inl ⟨_,rfl,r3⟩⟩
  |_=>exact absurd q2h zp
theorem d2f (hT:TabOk P T){t x}(h:a5A T fr t x s=some (v,s'))(S:Sim B0 w0 K s.h w)(hf:VRL K a.tmps.toList fr)(hg:GK T K):G9 P B0 w0 K s' (do pure (Next.value (<-Instr.loadAt t (a.eval x)))) w v:=by obtain⟨vx,e1,q3h⟩:=N6 h;obtain⟨ad,rfl,q4h⟩:=a0S q3h;obtain⟨ad',e2,r⟩:=a6Z (E3 hf hg e1);grind[b5E,G9.quiet,Instr.loadAt,Instr.sureAddr]
theorem c9G (hT:TabOk P T){t x y}(h:a6e T fr t x y s=some (v,s'))(S:Sim B0 w0 K s.h w)(hf:VRL K a.tmps.toList fr)(hg:GK T K):G9 P B0 w0 K s' (do Instr.storeAt t (a.eval x) (a.eval y);pure Next.skip) w v:=by obtain⟨vx,e1,q5h⟩:=N6 h;obtain⟨vy,e2,q6h⟩:=N6 q5h;obtain⟨ad,rfl,q7h⟩:=a0S q6h;obtain⟨un,s1,h1,h2⟩:=o7 q7h;obtain⟨rfl,rfl⟩:=j7 h2;obtain⟨ad',e3,r⟩:=a6Z (E3 hf hg e1);obtain⟨w',r1,r2,r3⟩:=c4P hT h1 S r (E3 hf hg e2);refine⟨.skip,w',K,?_,⟨KM.le_refl K,λ_ _ _=>rfl,r2⟩,Or.inr ⟨rfl,rfl⟩⟩;rw[e3];simp[Instr.storeAt,Instr.sureAddr,r1]
theorem a7J {vs vs' ad}(h:M5 vs s=some (ad,s'))(S:Sim B0 w0 K s.h w)(F:Q0 K s s')(hv:VRL K vs' vs)(t):∃K',Step B0 w0 K s' (w.alloc (.cells vs'.toArray t)) K'/\K' s.c 0=some ⟨w.heap.size,0,0,vs'.length,true⟩/\ad=⟨s.c,0,some 0⟩:=by have:=a3T (w':=w.alloc (.cells vs'.toArray t)) (arr:=vs'.toArray) (e:=t) (fz:=(0,0)) (rest:=[]) h S F hv (Grew.alloc _ _) yw zu (λo _=>zu);omega
theorem c7O (hT:TabOk P T){t}(h:b1B T t s=some (v,s'))(S:Sim B0 w0 K s.h w)(F:Q0 K s s'):G9 P B0 w0 K s' (do pure (Next.value (<-Instr.alloc t true (.tuple #[])))) w v:=by obtain⟨i,hi,q8h⟩:=J8 h;obtain⟨hgd,q9h⟩:=y8 q8h;obtain⟨ad,s1,h1,h2⟩:=o7 q9h;obtain⟨rfl,rfl⟩:=j7 h2;simp only[xM]at hgd;have hz:VR K i.zero i.zero:=T5 _ _ hgd.1;obtain⟨K',r1,r2,rfl⟩:=a7J h1 S F hz.cells t;refine G9.step (v':=.pointer (some ⟨w.heap.size,0,none⟩)) (w':=w.alloc (.cells i.zero.cells t)) ?_ r1 ?_;simp[Instr.alloc,a7I hT hi,newVar,newRow];exact VR.ptr (off:=0) r2 (wR _)
theorem d4p {t x}(h:a9x T fr x s=some (v,s'))(S:Sim B0 w0 K s.h w)(F:Q0 K s s')(hf:VRL K a.tmps.toList fr)(hg:GK T K):G9 P B0 w0 K s' (do pure (Next.value (<-Instr.box t (a.eval x)))) w v:=by obtain⟨vx,e1,q10h⟩:=N6 h;obtain⟨hgd,q11h⟩:=y8 q10h;obtain⟨ad,s1,h1,h2⟩:=o7 q11h;obtain⟨rfl,rfl⟩:=j7 h2;obtain⟨K',r1,r2,rfl⟩:=a7J h1 S F (E3 hf hg e1).cells t;refine G9.step (v':=.pointer (some ⟨w.heap.size,0,none⟩)) (w':=w.alloc (.cells (a.eval x).cells t)) ?_ r1 ?_;rfl;exact VR.ptr (off:=0) r2 (wR _)
theorem b9j (hT:TabOk P T){t x f}(h:a2p T fr t x f s=some (v,s'))(S:Sim B0 w0 K s.h w)(hf:VRL K a.tmps.toList fr)(hg:GK T K):G9 P B0 w0 K s' (do pure (Next.value (<-Instr.fieldAt t (a.eval x) f))) w v:=by obtain⟨vx,e1,q12h⟩:=N6 h;obtain⟨d,hd,q13h⟩:=J8 q12h;generalize hu:d.und=u at q13h;cases u with|struct fields=>obtain⟨ad,rfl,q14h⟩:=a0S q13h;obtain⟨fd,e2,q15h⟩:=x8 q14h;obtain⟨n,hn,q16h⟩:=J8 q15h;obtain⟨hgd,q17h⟩:=y8 q16h;obtain⟨rfl,rfl⟩:=j7 q17h;obtain⟨ad',e3,r⟩:=a6Z (E3 hf hg e1);rw[a0J]at e2;have e2':fields[f]?=some fd:=zr;have hn0:¬n.size=0:=b4p hgd;refine G9.quiet S rfl ?_ (r.fwd fd.offset);rw[e3];simp[Instr.fieldAt,M8 hT hd,hu,e2',Instr.sureAddr,fieldPlace,T8 hT hn,hn0]|_=>exact absurd q13h zp
theorem a1H {x' o len es}(r:VR K x' (.slice o len es)):(∃ad ad' cap,o=some ad/\x'=.slice (some ad') len cap/\len<=cap/\VR K (.slice (some ad') len cap) (.slice (some ad) len es)/\0<es/\(cap=0\/ad'.spot=none)/\(0<cap->VR K (.pointer (some ad')) (.pointer (some ad))))\/(o=none/\len=0/\es=0/\x'=.slice none 0 0):=by
 generalize hv:Value.slice o len es=x at r;cases r with
  |plain hp=>subst hv;simp[V.plain]at hp;simp_all| @slice b g off len' cap es' l a' hk hl hes hlc hsp hor=>
   cases hv;refine Or.inl ⟨_,a',cap,rfl,rfl,hlc,.slice hk hl hes hlc hsp hor,hes,hsp,λhc=>?_⟩;rcases hor with h0|⟨h1,h2,h3⟩;omega;have:a'=⟨l.blk,l.at_+(off-l.lo),none⟩:=by obtain⟨x,y,z⟩:=a';grind
   rw[this];exact .ptr hk hl|_=>cases hv
theorem a5p {x n}(h:a5x x=some n):∃k,x=.int k (Int.ofNat n):=by
 cases x with
  |int k m=>cases m with|ofNat m=>cases h;simp_all|negSucc m=>cases h
  |_=>cases h
theorem c0n (hT:TabOk P T){t x y}(h:a0N T fr t x y s=some (v,s'))(S:Sim B0 w0 K s.h w)(hf:VRL K a.tmps.toList fr)(hg:GK T K):G9 P B0 w0 K s' (do pure (Next.value (<-Instr.indexAt t (a.eval x) (a.eval y)))) w v:=by
 obtain⟨vx,e1,q18h⟩:=N6 h;obtain⟨vy,e2,q19h⟩:=N6 q18h;obtain⟨d,hd,q20h⟩:=J8 q19h;obtain⟨i,hi,q21h⟩:=x8 q20h;obtain⟨k,rfl⟩:=a5p hi;have ey:a.eval y=.int k (Int.ofNat i):=(E3 hf hg e2).eq_of_plain rfl;rw[ey];generalize hu:d.und=u at q21h;cases u with
  |array len elem=>obtain⟨ad,rfl,q22h⟩:=a0S q21h;obtain⟨e,he,q23h⟩:=J8 q22h;obtain⟨hgd,q24h⟩:=y8 q23h;obtain⟨rfl,rfl⟩:=j7 q24h;obtain⟨ad',e3,r⟩:=a6Z (E3 hf hg e1);simp only[xM]at hgd;have hlt:i<len:=zq;refine G9.quiet S rfl ?_ (r.fwd (i*e.size));rw[e3];simp[Instr.indexAt,asIntOf,M8 hT hd,hu,Instr.sureAddr,hlt,T8 hT he]|slice elem=>cases vx with|slice o len es=>obtain⟨ad,rfl,q25h⟩:=x8 q21h;obtain⟨e,he,q26h⟩:=J8 q25h;obtain⟨hg1,q27h⟩:=y8 q26h;obtain⟨e',he',q28h⟩:=J8 q27h;rw[he]at he';cases he';obtain⟨hgd,q29h⟩:=y8 q28h;obtain⟨rfl,rfl⟩:=j7 q29h;simp only[xM]at hgd;have hlt:i<len:=zq;rcases a1H (E3 hf hg e1)with⟨ad1,ad',cap,q1,q2,q3,q4,q5,q6,q7⟩|⟨q1,_⟩;cases q1;have r:=q7 zy;refine G9.quiet S rfl ?_ (r.fwd (i*e.size));rw[q2];simp[Instr.indexAt,asIntOf,M8 hT hd,hu,hlt,T8 hT he];cases q1|_=>exact absurd q21h zp
  |_=>exact absurd q21h zp
theorem VRL.get? {l' l}(h:VRL K l' l){i:Nat}{x}(e:l[i]?=some x):∃x',l'[i]?=some x'/\VR K x' x:=by
 have hi:i<l.length:=(xQ.1 e).1;have hi':i<l'.length:=by rw[h.len];exact hi
 exact⟨l'[i],xP hi',h.at_ i _ _ (xP hi') e⟩
theorem b9J (hT:TabOk P T){t cs' cs off u}(h:partV T t cs off s=some (u,s'))(hc:VRL K cs' cs)(w):∃u',(part t cs'.toArray off).run P w=.ok u' w/\VR K u' u/\s'=s:=by obtain⟨i,hi,q30h⟩:=J8 h;unfold part;simp only[wv,b5M hT hi,xD];cases hag:a8i i.und with|true=>rw[hag]at q30h;obtain⟨rfl,rfl⟩:=j7 q30h;refine⟨.agg ((cs'.drop off).take i.size).toArray,?_,?_,rfl⟩;simp only[tf,wv,T8 hT hi,xD,wb];simp_all;rw[a0k,Q8];have:=(hc.drop off).take i.size;exact .agg (by simpa using this.len) (by simpa using this.at_)|false=>rw[hag]at q30h;obtain⟨x,hx,q31h⟩:=x8 q30h;obtain⟨rfl,rfl⟩:=j7 q31h;rw[a0J]at hx;obtain⟨x',q1,q2⟩:=hc.get? hx;simp_all
theorem c7B {x' cs}(r:VR K x' (.agg cs)):∃cs',x'=.agg cs'/\VRL K cs'.toList cs.toList:=by generalize hv:Value.agg cs=x at r;cases r with|plain hp=>grind[V.plain]|agg hl ih=>cases hv;exact⟨_,rfl,⟨hl,ih⟩⟩|_=>cases hv
theorem c8R {x' cs}(r:VR K x' (.tuple cs)):∃cs',x'=.tuple cs'/\VRL K cs'.toList cs.toList:=by generalize hv:Value.tuple cs=x at r;cases r with|plain hp=>grind[V.plain]|tuple hl ih=>cases hv;exact⟨_,rfl,⟨hl,ih⟩⟩|_=>cases hv
theorem c8p (hT:TabOk P T){t x f}(h:a4x T fr t x f s=some (v,s'))(S:Sim B0 w0 K s.h w)(hf:VRL K a.tmps.toList fr)(hg:GK T K):G9 P B0 w0 K s' (do pure (Next.value (<-Instr.field t (a.eval x) f))) w v:=by
 obtain⟨vx,e1,q32h⟩:=N6 h;obtain⟨d,hd,q33h⟩:=J8 q32h;generalize hu:d.und=u at q33h;cases u with
  |struct fields=>cases vx with|agg cs=>obtain⟨fd,e2,q34h⟩:=x8 q33h;obtain⟨cs',e3,r⟩:=c7B (E3 hf hg e1);obtain⟨u',q1,q2,rfl⟩:=b9J hT q34h r w;rw[a0J]at e2;have e2':fields[f]?=some fd:=zr;refine G9.quiet S rfl ?_ q2;rw[e3];simp[Instr.field,M8 hT hd,hu,e2',asAgg]at q1⊢;exact q1|_=>exact absurd q33h zp
  |_=>exact absurd q33h zp
theorem c4z {x i}(h:a3P T fr x i s=some (v,s'))(S:Sim B0 w0 K s.h w)(hf:VRL K a.tmps.toList fr)(hg:GK T K):G9 P B0 w0 K s' (do pure (Next.value (<-Instr.extract (a.eval x) i))) w v:=by obtain⟨vx,e1,q35h⟩:=N6 h;split at q35h;rename_i cs;obtain⟨y,e2,q36h⟩:=x8 q35h;obtain⟨rfl,rfl⟩:=j7 q36h;rw[a0J]at e2;obtain⟨cs',e3,r⟩:=c8R (E3 hf hg e1);obtain⟨y',q1,q2⟩:=r.get? e2;have q1':cs'[i]?=some y':=zr;refine G9.quiet S rfl ?_ q2;rw[e3];simp[Instr.extract,q1'];cases q35h
theorem c1b {o x}(ho:o.op=.nilCheck x)(h:a2X T fr x s=some (v,s'))(S:Sim B0 w0 K s.h w)(hf:VRL K a.tmps.toList fr)(hg:GK T K):G9 P B0 w0 K s' (execOp a.eval o) w v:=by
 obtain⟨o1,o2,o3,o4,o5,o6⟩:=o;cases ho;unfold execOp;simp only;obtain⟨vx,e1,q37h⟩:=N6 h;have r:=E3 hf hg e1;split at q37h;rename_i o;obtain⟨hgd,q38h⟩:=y8 q37h;obtain⟨rfl,rfl⟩:=j7 q38h;cases o with|none=>cases hgd|some ad=>obtain⟨ad',e2,r'⟩:=a6Z r;rw[e2];exact⟨_,w,K,rfl,Step.same S rfl,Or.inl ⟨_,rfl,r'⟩⟩
 rename_i fn x1 x2;obtain⟨hgd,q39h⟩:=y8 q37h;obtain⟨rfl,rfl⟩:=j7 q39h;cases fn with
  |func f=>generalize hv:Value.func (Fn.func f) x1 x2=y at r;generalize hx:a.eval x=y' at r;cases r with|plain hp=>grind[V.plain]|func h1 h2 h3 h4=>cases hv;exact⟨_,w,K,rfl,Step.same S rfl,Or.inl ⟨_,rfl,.func h1 h2 h3 h4⟩⟩|_=>cases hv
  |_=>cases hgd
 cases q37h
theorem c8X (hT:TabOk P T){t x}(h:a6d T fr t x s=some (v,s'))(S:Sim B0 w0 K s.h w)(hf:VRL K a.tmps.toList fr)(hg:GK T K):G9 P B0 w0 K s' (do pure (Next.value (<-Instr.makeInterface t (a.eval x)))) w v:=by obtain⟨vx,e1,q40h⟩:=N6 h;obtain⟨d,hd,q41h⟩:=J8 q40h;obtain⟨hgd,q42h⟩:=y8 q41h;obtain⟨rfl,rfl⟩:=j7 q42h;refine G9.quiet S rfl ?_ (.iface (E3 hf hg e1));unfold Instr.makeInterface;simp only[wv,M8 hT hd,xD];cases hu:d.und<;>first|rfl|(rw[hu]at hgd;cases hgd)
theorem d3U {fn x y}(h:a7V T fr fn x y s=some (v,s'))(S:Sim B0 w0 K s.h w)(hf:VRL K a.tmps.toList fr)(hg:GK T K):G9 P B0 w0 K s' (do pure (Next.value (<-Instr.makeFunc fn (x.map a.eval) (y.map a.eval)))) w v:=by obtain⟨va,e1,q43h⟩:=a4y h;obtain⟨vb,e2,q44h⟩:=a4y q43h;obtain⟨rfl,rfl⟩:=j7 q44h;have r1:=a3V hf hg e1;have r2:=a3V hf hg e2;exact G9.quiet S rfl rfl (.func (by simpa using r1.len) (by simpa using r1.at_) xu xr)
end
end Go.V
end
section
namespace Go.V
open Go.RowKit (Below)
theorem b5D (off):∀(l:List Value) (k0) (cells:Array Value),off+k0+l.length<=cells.size->((l.zipIdx k0).foldl (λacc x=>acc.setIfInBounds (off+x.2) x.1) cells).size=cells.size/\∀k,((l.zipIdx k0).foldl (λacc x=>acc.setIfInBounds (off+x.2) x.1) cells)[k]?=if off+k0<=k/\k<off+k0+l.length then l[k-(off+k0)]? else cells[k]? |[],k0,cells,_=>⟨rfl,λk=>by rw[wX zu];rfl⟩|v::l,k0,cells,h=>by have h':off+(k0+1)+l.length<=(cells.setIfInBounds (off+k0) v).size:=zr;obtain⟨h1,h2⟩:=b5D off l (k0+1) (cells.setIfInBounds (off+k0) v) h';simp only[List.zipIdx_cons,List.foldl_cons];grind
theorem b6D:∀(vs cs) (k),(a3X vs cs)[k]?=if k<vs.length/\k<cs.length then vs[k]? else cs[k]?:=by intro vs;induction vs with|nil=>intro cs k;rfl|cons v vs ih=>intro cs k;cases cs with|nil=>show([]:List Value)[k]?=_;simp|cons c cs=>show(v::a3X vs cs)[k]?=_;grind
theorem a8J (vs):∀(cs) (off k),(a1a vs cs off)[k]?=if off<=k/\k<off+vs.length/\k<cs.length then vs[k-off]? else cs[k]?:=by intro cs;induction cs with|nil=>intro off k;show([]:List Value)[k]?=_;simp|cons c cs ih=>intro off k;cases off with|zero=>show(a3X vs (c::cs))[k]?=_;rw[b6D];simp|succ off=>show(c::a1a vs cs off)[k]?=_;cases k with|zero=>simp|succ k=>grind
theorem b0v (vs):∀(cs) (off),(a1a vs cs off).length=cs.length:=by intro cs off;apply Nat.le_antisymm;rcases wK cs.length (a1a vs cs off).length with h|h;have:=a8J vs cs off cs.length;rw[wX zy,ww (xR _),xP h]at this;cases this;exact h;rcases wK (a1a vs cs off).length cs.length with h|h;have h1:=a8J vs cs off (a1a vs cs off).length;rw[ww (xR _)]at h1;grind;exact h
theorem b2E {K}{ρ:Operand->Value}(place):∀(qs) (vs cs cs2 cs'),a5D place qs vs cs=some cs2->VRL K (qs.map λq=>ρ q.2) vs->VRL K cs' cs->∃cs2',Instr.fill place cs'.toArray (qs.map λq=>(q.1,ρ q.2))=some cs2'.toArray/\VRL K cs2' cs2:=by
 intro qs;induction qs with
  |nil=>intro vs cs cs2 cs' h hv hc;cases h;exact⟨cs',rfl,hc⟩|cons q qs ih=>
   intro vs cs cs2 cs' h hv hc;cases vs with
    |nil=>have:=hv.len;simp at this|cons v vs=>
     have h':(match place q.1 with|none=>none|some os=>match Nat.beq (j9 v.cells.toList) os.2&&Nat.ble (os.1+os.2) (j9 cs)with|true=>a5D place qs vs (a1a v.cells.toList cs os.1)|false=>none)=some cs2:=h;cases hp:place q.1 with
      |none=>rw[hp]at h';cases h'|some os=>
       obtain⟨off,size⟩:=os;rw[hp]at h';dsimp only at h';cases hb:Nat.beq (j9 v.cells.toList) size&&Nat.ble (off+size) (j9 cs)with
        |false=>rw[hb]at h';cases h'|true=>
         rw[hb]at h';simp only[xM,y9]at hb;have hb1:=xS hb.1;have hb2:=wk hb.2;have hvc:=(hv.head).cells;have hsz:(ρ q.2).cells.size=size:=by rw[<-vu,hvc.len,hb1]
         have hcs:cs'.length=cs.length:=hc.len;obtain⟨f1,f2⟩:=b5D off (ρ q.2).cells.toList 0 cs'.toArray zq;let nc:=(((ρ q.2).cells.toList.zipIdx 0).foldl (λacc x=>acc.setIfInBounds (off+x.2) x.1) cs'.toArray);have hrel:VRL K nc.toList (a1a v.cells.toList cs off):=by refine⟨by rw[b0v];grind,λi x' x e e'=>?_⟩;have g1:nc[i]?=some x':=zr;rw[f2 i]at g1;rw[a8J]at e';simp only[wV,vu,hsz]at g1;by_cases hk:off<=i/\i<off+size;rw[wT hk]at g1;rw[wT (by rw[hb1];omega)]at e';exact hvc.at_ _ _ _ g1 e';rw[wX hk]at g1;rw[wX (by rw[hb1];omega)]at e';exact hc.at_ i x' x zr e'
         obtain⟨cs2',r1,r2⟩:=ih vs _ cs2 nc.toList h' hv.tail hrel;refine⟨cs2',?_,r2⟩;have hcond:¬(off+size>cs'.length):=zy;simp only[vh,Instr.fill,hp,hsz];simp only[ne_eq,not_true_eq_false,vP,wZ,um,hcond];rw[<-r1];congr 1;rw[<-Array.foldl_toList];simp[nc,Array.toList_zipIdx]
section
variable {P:Program}{T:Tab}{B0:Nat}{w0:Base}{w:World}{K:KM}{s s':S}{a:Act}{fr:List Value}{v:Value}
theorem b5I (hT:TabOk P T):∀(fs),(∀f∈fs,b6W T f=true)->∃places,fs.mapM (λf=>(P.info? f.type).map λi=>(f.offset,i.size))=some places/\∀j,places[j]?=a3y T fs j|[],_=>⟨[],rfl,λj=>rfl⟩|f::fs,h=>by obtain⟨places,h1,h2⟩:=b5I hT fs (λg hg=>h g (wY _ hg));have hf:=h f (wH ..);unfold b6W at hf;obtain⟨i,hi⟩:=vI.1 hf;obtain⟨info,g1,_,g3,_⟩:=hT.types _ _ hi;refine⟨(f.offset,i.size)::places,zq,λj=>?_⟩;grind[a3y,a0J]
theorem d0m (hT:TabOk P T){t:TypeId}{ps:Array (Nat×Operand)}(h:a6n T fr t ps s=some (v,s'))(S:Sim B0 w0 K s.h w)(hf:VRL K a.tmps.toList fr)(hg:GK T K):G9 P B0 w0 K s' (do pure (Next.value (<-Instr.build t (ps.map λ(i,x)=>(i,a.eval x))))) w v:=by
 obtain⟨vs,e1,h1⟩:=a4y h;obtain⟨i,hi,h2⟩:=J8 h1;obtain⟨hz,h3⟩:=y8 h2;obtain⟨info,g1,g2,g3,g4,g5,g6⟩:=hT.types t i hi;have hzz:VRL K i.zero.cells.toList i.zero.cells.toList:=(T5 (K:=K) _ _ hz).cells;rw[S9]at e1;have hv:=a3V hf hg e1;have hv':VRL K (ps.toList.map λq=>a.eval q.2) vs:=by rw[vG]at hv;exact hv
 have hparts:(ps.map λ(i,x)=>(i,a.eval x)).toList=ps.toList.map λq=>(q.1,a.eval q.2):=zu;generalize hu:i.und=u at h3;cases u with
  |struct fields=>
   obtain⟨hfs,h4⟩:=y8 h3;obtain⟨cs,hcs,h5⟩:=x8 h4;obtain⟨rfl,rfl⟩:=j7 h5;rw[C9]at hfs;obtain⟨places,p1,p2⟩:=b5I hT fields.toList hfs;obtain⟨cs2',r1,r2⟩:=b2E (ρ:=a.eval) _ ps.toList vs _ cs _ hcs hv' hzz;refine G9.quiet (v':=.agg cs2'.toArray) S rfl ?_ (.agg xu xr);apply run_build;unfold Program.built;rw[g1,g2,hu,hparts];have hpl:(λx=>places.toArray[x]?)=a3y T fields.toList:=by funext j;rw[<-p2 j];simp
   simp_all|array n elem=>obtain⟨e,he,h4⟩:=J8 h3;obtain⟨cs,hcs,h5⟩:=x8 h4;obtain⟨rfl,rfl⟩:=j7 h5;obtain⟨einfo,k1,_,k3,_⟩:=hT.types elem e he;obtain⟨cs2',r1,r2⟩:=b2E (ρ:=a.eval) _ ps.toList vs _ cs _ hcs hv' hzz;refine G9.quiet (v':=.agg cs2'.toArray) S rfl ?_ (.agg xu xr);apply run_build;unfold Program.built;rw[g1,g2,hu,hparts];simp only[g5,k1,k3];have:(λi:Nat=>some (i*e.size,e.size))=Z1 e.size:=rfl;rw[this];omega|_=>exact absurd h3 zp
theorem a6F (zs n):(a3D zs n).length=n*zs.length:=by induction n with|zero=>show([]:List Value).length=_;simp|succ n ih=>grind[a3D,v8]
theorem c8y (zs):∀(n k),k<n*zs.length->(a3D zs n)[k]?=zs[k%zs.length]?:=by intro n;induction n with|zero=>omega|succ n ih=>intro k h;show(m9 zs (a3D zs n))[k]?=_;rw[v8];grind[Nat.mod_eq_of_lt,List.getElem?_append_right,Nat.mod_eq_sub_mod]
theorem b2z (z:Array Value)(n)(hz:0<z.size):((Array.range (n*z.size)).map (λi=>z[i%z.size]!)).toList=a3D z.toList n:=by apply wE;grind[c8y,a6F]
theorem VRL.repl {zs:List Value}(h:VRL K zs zs)(n:Nat):VRL K (a3D zs n) (a3D zs n):=by induction n with|zero=>exact VRL.nil K|succ n ih=>show VRL K (m9 zs (V.a3D zs n)) (m9 zs (V.a3D zs n));rw[v8];exact h.append ih
theorem b6t (hT:TabOk P T){t:TypeId}{len:Nat}{ps:Array (Nat×Operand)}(h:a1O T fr t len ps s=some (v,s'))(S:Sim B0 w0 K s.h w)(F:Q0 K s s')(hf:VRL K a.tmps.toList fr)(hg:GK T K):G9 P B0 w0 K s' (do pure (Next.value (<-Instr.buildSlice t len (ps.map λ(i,x)=>(i,a.eval x))))) w v:=by
 obtain⟨vs,e1,h1⟩:=a4y h;obtain⟨d,hd,h2⟩:=J8 h1;rw[S9]at e1;have hv:=a3V hf hg e1;have hv':VRL K (ps.toList.map λq=>a.eval q.2) vs:=by rw[vG]at hv;exact hv
 have hparts:(ps.map λ(i,x)=>(i,a.eval x)).toList=ps.toList.map λq=>(q.1,a.eval q.2):=zu;generalize hu:d.und=u at h2;cases u with
  |slice elem=>
   obtain⟨e,he,h3⟩:=J8 h2;obtain⟨hgd,h4⟩:=y8 h3;obtain⟨cs,hcs,h5⟩:=x8 h4;obtain⟨ad,s1,h6,h7⟩:=o7 h5;obtain⟨rfl,rfl⟩:=j7 h7;simp only[xM]at hgd;obtain⟨⟨⟨q1,q2⟩,q3⟩,q4⟩:=hgd;have q2:=b4p q2;have q4:=wk q4;obtain⟨info,g1,g2,g3,g4,g5,g6⟩:=hT.types elem e he;have hzz:VRL K e.zero.cells.toList e.zero.cells.toList:=(T5 (K:=K) _ _ q3).cells;obtain⟨cs2',r1,r2⟩:=b2E (ρ:=a.eval) _ ps.toList vs _ cs _ hcs hv' (hzz.repl len);obtain⟨K',k1,k2,rfl⟩:=a7J h6 S F r2 elem;have hlen:cs2'.length=len*e.size:=by
    have:∀(qs:List (Nat×Operand)) vs cs cs2,a5D (Z1 e.size) qs vs cs=some cs2->cs2.length=cs.length:=by intro qs;induction qs with|nil=>intro vs cs cs2 h;cases h;rfl|cons q qs ih=>intro vs cs cs2 h;cases vs with|nil=>cases h|cons v vs=>have h':(match Nat.beq (j9 v.cells.toList) e.size&&Nat.ble (q.1*e.size+e.size) (j9 cs)with|true=>a5D (Z1 e.size) qs vs (a1a v.cells.toList cs (q.1*e.size))|false=>none)=some cs2:=h;grind[b0v]
    rw[r2.len,this _ _ _ _ hcs,a6F,vu,g6]
   refine G9.step (v':=.slice (some ⟨w.heap.size,0,none⟩) len len) (w':=w.alloc (.cells cs2'.toArray elem)) ?_ k1 ?_;have hsm:¬len*e.size>2^24:=zy;by_cases h0:len*e.size=0;have hl0:len=0:=by grind[Nat.mul_eq_zero]
   subst hl0;simp only[Instr.buildSlice,wv,M8 hT hd,hu,xD,T8 hT he,hparts];have hr:(λi=>some (i*e.size,e.size))=Z1 e.size:=rfl;have r1':Instr.fill (Z1 e.size) #[] (List.map (λq=>(q.fst,a.eval q.snd)) ps.toList)=some cs2'.toArray:=r1;have hr0:Array.range 0=#[]:=rfl;simp[hr,newRow,hr0,r1'];have hr:(λi=>some (i*e.size,e.size))=Z1 e.size:=rfl;have:=run_buildSlice w t elem len (ps.map λ(i,x)=>(i,a.eval x)) cs2'.toArray info e.zero (by rw[<-hu];exact(hT.types t d hd).choose_spec.2.1) g1 g5 (by rw[g3];exact hsm) (by rw[g3];exact h0) (by rw[g3,hr,hparts,<-r1];congr 1;grind[b2z]);exact this;refine VR.slice (off:=0) k2 (wR _) zy (xR _) (Or.inr rfl) ?_;simp_all|_=>exact absurd h2 zp
end
end Go.V
end
section
namespace Go.V
open Go.RowKit (Below)
section
variable {P:Program}{T:Tab}{B0:Nat}{w0:Base}{w:World}{K:KM}{s s':S}{a:Act}{fr:List Value}{v:Value}
theorem b3u (n)(h:n<9223372036854775808):IntKind.i64.wrap (Int.ofNat n)=Int.ofNat n:=by unfold IntKind.wrap;have e1:(2^IntKind.i64.bits:Int)=18446744073709551616:=rfl;have e2:(2^(IntKind.i64.bits-1):Int)=9223372036854775808:=rfl;rw[e1,e2];have:(Int.ofNat n)%18446744073709551616=Int.ofNat n:=Int.emod_eq_of_lt zu (by have:(Int.ofNat n)=(n:Int):=rfl;omega);rw[this];grind
theorem c8f (zs m n):a3D zs (m+n)=a3D zs m++a3D zs n:=by induction m with|zero=>rw[wt];rfl|succ m ih=>rw[show m+1+n=(m+n)+1 by omega];grind[a3D,v8]
theorem d2v (hT:TabOk P T){t x y}(h:a8c T fr t x y s=some (v,s'))(S:Sim B0 w0 K s.h w)(F:Q0 K s s')(hf:VRL K a.tmps.toList fr)(hg:GK T K):G9 P B0 w0 K s' (do pure (Next.value (<-Instr.makeSlice t (a.eval x) (a.eval y)))) w v:=by
 obtain⟨vx,e1,h1⟩:=N6 h;obtain⟨vy,e2,h2⟩:=N6 h1;obtain⟨d,hd,h3⟩:=J8 h2;generalize hu:d.und=u at h3;cases u with
  |slice elem=>
   obtain⟨e,he,h4⟩:=J8 h3;obtain⟨l,hl,h5⟩:=x8 h4;obtain⟨c,hc,h6⟩:=x8 h5;obtain⟨hgd,h7⟩:=y8 h6;obtain⟨ad,s1,h8,h9⟩:=o7 h7;obtain⟨rfl,rfl⟩:=j7 h9;obtain⟨k1,rfl⟩:=a5p hl;obtain⟨k2,rfl⟩:=a5p hc;have ex:a.eval x=.int k1 (Int.ofNat l):=(E3 hf hg e1).eq_of_plain rfl;have ey:a.eval y=.int k2 (Int.ofNat c):=(E3 hf hg e2).eq_of_plain rfl;simp only[xM]at hgd;obtain⟨⟨⟨⟨⟨q1,q2⟩,q3⟩,q4⟩,q5⟩,q6⟩:=hgd;have q1:=wk q1;have q2:c<4294967296:=by grind[Nat.blt_eq,a2J]
   have q3:e.bytes<4096:=zq;have q5:=b4p q5;obtain⟨info,g1,g2,g3,g4,g5,g6⟩:=hT.types elem e he;have hzz:VRL K e.zero.cells.toList e.zero.cells.toList:=(T5 (K:=K) _ _ q6).cells;have hzpos:0<e.zero.cells.size:=by rw[g6];omega
   let arr:Array Value:=(Array.range (c*e.size)).map (λi=>e.zero.cells[i%e.zero.cells.size]!);have harr:arr.toList=a3D e.zero.cells.toList c:=by have:=b2z e.zero.cells c hzpos;grind
   have hsz:arr.size=c*e.size:=by simp[arr]
   obtain⟨K',r1,r2,rfl⟩:=a3T (w':=w.alloc (.cells arr elem)) (arr:=arr) (e:=elem) (fz:=(0,0)) (rest:=a3D e.zero.cells.toList (c-l)) h8 S F (hzz.repl l) (Grew.alloc _ _) yw (by rw[harr,<-c8f];grind) (λo _=>zu);refine G9.step (v':=.slice (some ⟨w.heap.size,0,none⟩) l c) (w':=w.alloc (.cells arr elem)) ?_ r1 ?_;rw[ex,ey];have hb:(e.bytes:Int)*Int.ofNat c<2^48:=by
    have h1:e.bytes*c<4096*4294967296:=by rcases uY c with h0|h0;grind;exact xI (Nat.mul_lt_mul_of_pos_right q3 h0) (Nat.mul_le_mul_left _ zy)
    have:(e.bytes:Int)*Int.ofNat c=((e.bytes*c:Nat):Int):=zu;rw[this];omega
   have hb':¬((e.bytes:Int)*(c:Int)>281474976710656):=by have:(e.bytes:Int)*Int.ofNat c=(e.bytes:Int)*(c:Int):=rfl;omega
   simp only[Instr.makeSlice,wv,M8 hT hd,hu,xD,asInt,asIntOf,wb,typeInfo,run_program,g1,b3u l zy,b3u c zy,g4];have hcond:(decide (Int.ofNat c<0)||decide ((e.bytes:Int)*Int.ofNat c>2^48)||decide (Int.ofNat l<0)||decide (Int.ofNat l>Int.ofNat c))=false:=zq;simp only[hcond,wL,vN,run_askRoom,wv,xD,T8 hT he];have hfin:∀z:Array Value,(z=e.zero.cells\/c*e.size=0)->(Array.range (c*e.size)).map (λx=>z[x%z.size]!)=arr:=zr;simp only[wz,Int.toNat_natCast]at*;by_cases h0:c*e.size=0;rw[wT h0];simp only[wv,wb,xD,newRow,sR];rw[hfin #[] (Or.inr h0)];rfl;rw[wX h0];simp only[wv,a7I hT he,wb,xD,newRow,sR];rw[hfin _ (Or.inl rfl)];rfl;refine VR.slice (off:=0) r2 (wR _) zy q1 (Or.inr rfl) (Or.inr ⟨rfl,rfl,λ_=>?_⟩);simp_all|_=>exact absurd h3 zp
theorem b0C {x n y}(h:a5x x=some n)(hn:n<=y)(code w):(Instr.sliceBound x y code).run P w=.ok n w:=by obtain⟨k,rfl⟩:=a5p h;simp[Instr.sliceBound,asIntOf,hn]
theorem a7B {lo hi l hh len cap}(isS)(h1:a0X 0 lo=some l)(h2:a0X len hi=some hh)(hl:l<=hh)(hle:hh<=len)(hc:len<=cap)(w):(Instr.sliceBounds isS len cap lo hi none).run P w=.ok (l,hh,cap) w:=by
 unfold Instr.sliceBounds;simp only[wv,wb,xD];cases hi with
  |none=>cases h2;simp only[wv,wb,xD];cases lo with|none=>cases h1;rfl|some x=>simp only[wv,b0C h1 hl,xD,wb]
  |some y=>simp only[wv,b0C h2 (wg hle hc),xD];cases lo with|none=>cases h1;rfl|some x=>simp only[wv,b0C h1 hl,xD,wb]
theorem c2r {o vs}(hf:VRL K a.tmps.toList fr)(hg:GK T K)(h:T0 T fr o.toList=some vs):(o=none/\O6 vs 0=none)\/∃x y,o=some x/\O6 vs 0=some y/\VR K (a.eval x) y:=by cases o with|none=>cases h;exact Or.inl ⟨rfl,rfl⟩|some x=>have h':(match K4 T fr x with|none=>none|some v=>some [v])=some vs:=h;split at h';cases h';rename_i y hy;cases h';exact Or.inr ⟨x,y,rfl,rfl,E3 hf hg hy⟩
theorem a2d {o:Option Operand}{vs d n}(hf:VRL K a.tmps.toList fr)(hg:GK T K)(h:T0 T fr o.toList=some vs)(hn:a0X d (O6 vs 0)=some n):a0X d (o.map a.eval)=some n:=by rcases c2r hf hg h with⟨rfl,e⟩|⟨x,y,rfl,e,r⟩;rw[e]at hn;exact hn;rw[e]at hn;obtain⟨k,rfl⟩:=a5p hn;have:=r.eq_of_plain rfl;simp_all
theorem c2p {ad len elem lo hi}(h:cut T ad len elem lo hi s=some (v,s')):∃e l hh,T.types.get elem=some e/\a0X 0 lo=some l/\a0X len hi=some hh/\l<=hh/\hh<=len/\e.size≠0/\v=.slice (some (fwd ad (l*e.size))) (hh-l) e.size/\s'=s:=by obtain⟨e,he,h1⟩:=J8 h;obtain⟨l,hl,h2⟩:=x8 h1;obtain⟨hh,hhh,h3⟩:=x8 h2;obtain⟨hgd,h4⟩:=y8 h3;obtain⟨rfl,rfl⟩:=j7 h4;simp only[xM]at hgd;exact⟨e,l,hh,he,hl,hhh,wk hgd.1.1,wk hgd.1.2,b4p hgd.2,rfl,rfl⟩
theorem b3w (x:ByteArray)(l h):x.extract l h=⟨⟨(x.data.toList.drop l).take (h-l)⟩⟩:=by have:=Lib.extract_data x l h;cases e:x.extract l h with|mk d=>rw[e]at this;congr 1;grind
theorem c8A (hT:TabOk P T){t x lo hi mx}(h:a6c T fr t x lo hi mx s=some (v,s'))(S:Sim B0 w0 K s.h w)(hf:VRL K a.tmps.toList fr)(hg:GK T K):G9 P B0 w0 K s' (do pure (Next.value (<-Instr.sliceAt t (a.eval x) (lo.map a.eval) (hi.map a.eval) (mx.map a.eval)))) w v:=by
 obtain⟨vlo,e1,h1⟩:=a4y h;obtain⟨vhi,e2,h2⟩:=a4y h1;obtain⟨vmx,e3,h3⟩:=a4y h2;obtain⟨vx,e4,h4⟩:=N6 h3;obtain⟨d,hd,h5⟩:=J8 h4;obtain⟨hgd,h6⟩:=y8 h5;have hmx:mx.map a.eval=none:=by rcases c2r hf hg e3 with⟨rfl,_⟩|⟨y,z,rfl,q,_⟩;rfl;simp_all
 rw[hmx];have rx:=E3 hf hg e4;generalize hu:d.und=u at h6;cases u with
  |string=>cases vx with|string b=>obtain⟨l,hl,h7⟩:=x8 h6;obtain⟨hh,hhh,h8⟩:=x8 h7;obtain⟨hg2,h9⟩:=y8 h8;rw[M4]at h9;obtain⟨rfl,rfl⟩:=j7 h9;simp only[xM,y9,vu]at hg2 hhh;have q1:=wk hg2.1;have q2:hh<=b.size:=wk hg2.2;have ex:=rx.eq_of_plain rfl;refine G9.quiet S rfl (v':=.string (b.extract l hh)) ?_ ?_;rw[ex];have hb:=a7B (P:=P) false (a2d hf hg e1 hl) (a2d hf hg e2 hhh) q1 q2 (xR b.size) w;have hb':(Instr.sliceBounds false b.size b.size (lo.map a.eval) (hi.map a.eval) none).run P w=.ok (l,hh,b.size) w:=hb;simp[Instr.sliceAt,Instr.slice,M8 hT hd,hu,hb'];rw[b3w,a0k,Q8];exact .plain rfl|_=>exact absurd h6 zp
  |slice elem=>
   cases vx with
    |slice o len es=>
     obtain⟨e0,he0,h7⟩:=J8 h6;cases o with
      |some ad=>
       obtain⟨hes,h8⟩:=y8 h7;obtain⟨e,l,hh,he,hl,hhh,q1,q2,q3,rfl,rfl⟩:=c2p h8;rw[he0]at he;cases he;have hes:=xS hes;subst hes;rcases a1H rx with⟨ad1,ad',cap,p1,p2,p3,p4,p5,p6,p7⟩|⟨p1,_⟩;cases p1;have hb:=a7B (P:=P) true (a2d hf hg e1 hl) (a2d hf hg e2 hhh) q1 q2 p3 w;have hrun:(Instr.sliceAt t (a.eval x) (lo.map a.eval) (hi.map a.eval) none).run P w=.ok (.slice (if cap=l then some ad' else some (ad'.add (l*e0.size))) (hh-l) (cap-l)) w:=by rw[p2];simp only[Instr.sliceAt,Instr.slice,wv,M8 hT hd,hu,xD,hb,T8 hT he0,wb];simp
       by_cases hc:cap=l;refine G9.quiet S rfl hrun ?_;rw[wT hc];generalize hv1:Value.slice (some ad') len cap=z' at p4;generalize hv2:Value.slice (some ad) len e0.size=z at p4;cases p4 with|plain hp=>grind[V.plain]|slice k1 k2 k3 k4 k5 k6=>cases hv1;cases hv2;exact VR.slice k1 (wg k2 (tq _ _)) k3 zy (Or.inl zy) (Or.inl zy)|_=>cases hv1
       refine G9.quiet S rfl hrun ?_;rw[wX hc];generalize hv1:Value.slice (some ad') len cap=z' at p4;generalize hv2:Value.slice (some ad) len e0.size=z at p4;cases p4 with
        |plain hp=>grind[V.plain]| @slice b g off len' cap' es' l0 a0 k1 k2 k3 k4 k5 k6=>
         cases hv1;cases hv2;rcases k6 with k6|⟨k6,k7,k8⟩;omega;obtain⟨ab,ao,asp⟩:=ad';simp only at k5 k6 k7 k8;obtain k5:=k5.resolve_left zy;subst k5 k6 k7;rw[a7b];refine VR.slice k1 (wg k2 (tq _ _)) k3 zy (Or.inr rfl) (Or.inr ⟨rfl,?_,λho=>?_⟩);grind;have:=k8 ho;dsimp only;have e1:l*e0.size+(cap-l)*e0.size=cap*e0.size:=by rw[<-vJ];grind
         omega|_=>cases hv1
       cases p1|none=>obtain⟨hl0,h7⟩:=y8 h7;obtain⟨l,hl,h8⟩:=x8 h7;obtain⟨hh,hhh,h9⟩:=x8 h8;obtain⟨hg2,h10⟩:=y8 h9;obtain⟨rfl,rfl⟩:=j7 h10;simp only[xM]at hg2;have q1:=xS hg2.1;have q2:=xS hg2.2;subst q1 q2;rcases a1H rx with⟨_,_,_,p1,_⟩|⟨_,p2,p3,p4⟩;cases p1;have hb:=a7B (P:=P) true (a2d hf hg e1 hl) (a2d hf hg e2 hhh) (xR 0) (xR 0) (xR 0) w;refine G9.quiet S rfl (v':=.slice none 0 0) ?_ (.plain rfl);rw[p4];simp only[Instr.sliceAt,Instr.slice,wv,M8 hT hd,hu,xD,hb,T8 hT he0,wb];simp
    |_=>exact absurd h6 zp
  |array n elem=>
   obtain⟨ad,rfl,h7⟩:=a0S h6;obtain⟨e0,he0,h8⟩:=J8 h7;obtain⟨us,s1,h9,h10⟩:=o7 h8;obtain⟨e,l,hh,he,hl,hhh,q1,q2,q3,rfl,rfl⟩:=c2p h10;rw[he0]at he;cases he;obtain⟨ad',p1,r⟩:=a6Z rx;obtain⟨us',r1,r2,r3,r4,r5⟩:=b1b (P:=P) h9 S r;have hb:=a7B (P:=P) false (a2d hf hg e1 hl) (a2d hf hg e2 hhh) q1 q2 (xR n) w;have hrun:(Instr.sliceAt t (a.eval x) (lo.map a.eval) (hi.map a.eval) none).run P w=.ok (.slice (some (if n=l then ad' else ad'.add (l*e0.size))) (hh-l) (n-l)) w:=by rw[p1];simp only[Instr.sliceAt,wv,M8 hT hd,hu,xD,Instr.sureAddr,hb,T8 hT he0,wb]
   refine G9.quiet S r5 hrun ?_;obtain⟨g,cs,cur,ro,z1,z2,z3,z4,z5⟩:=a6N h9;obtain⟨g',l0,y1,y2,y3,rfl⟩:=a6p r;rw[z1]at y1;cases y1;obtain⟨vs2,x1,x2,x3⟩:=a6P S y2 y3 z2 z3;obtain⟨ab,ao,asp⟩:=ad;cases z1;by_cases hc:n=l;rw[wT hc];exact VR.slice y2 (wg y3 (tq _ _)) zy zy (Or.inr rfl) (Or.inl zy);rw[wX hc,a7b];refine VR.slice y2 (wg y3 (tq _ _)) zy zy (Or.inr rfl) (Or.inr ⟨rfl,?_,λho=>?_⟩);grind;obtain⟨c,et,fz,c1,c2,c3⟩:=S.room _ _ l0 cs cur ro y2 ho z2;have hpos:0<n*e0.size:=Nat.mul_pos zy zy;have hlen:vs2.length=n*e0.size:=by rw[x1.len,x2]
   have hlast:=x3 (n*e0.size-1) _ (xP zy);simp only[World.cell?,c1]at hlast;have:=(uM.1 (by simpa using hlast)).1;have e1:l*e0.size+(n-l)*e0.size=n*e0.size:=by rw[<-vJ];grind
   grind|_=>exact absurd h6 zp
end
end Go.V
end
section
namespace Go.V
open Go.RowKit (Below)
section
variable {P:Program}{T:Tab}{B0:Nat}{w0:Base}{w:World}{K:KM}{s s':S}{v:Value}
theorem c5D (b:ByteArray):(b.extract 0 b.size).data.map (λx=>Value.int .u8 x.toNat)=(b.data.toList.map a4T).toArray:=by rw[b3w];apply sw;rw[Array.toList_map];have:b.data.toList.length<=b.size:=xR _;simp only[vK,uJ,uz this];rfl
theorem c4F {ad n s1 vs}(h:loadN ad n s=some (vs,s1))(S:Sim B0 w0 K s.h w){a'}(r:VR K (.pointer (some a')) (.pointer (some ad))):∃vs',(∀w2,(∀x,w2.cell? x=w.cell? x)->(loadCells a' n).run P w2=.ok vs'.toArray w2)/\VRL K vs' vs/\vs'.length=n/\s1.c=s.c/\s1.h=s.h:=by
 obtain⟨g,cs,cur,ro,e1,e2,e3,e4,e5⟩:=a6N h;obtain⟨g',l,f1,f2,f3,rfl⟩:=a6p r;rw[e1]at f1;cases f1;obtain⟨vs',c1,c2,c3⟩:=a6P S f2 f3 e2 e3;have hn:vs'.length=n:=by rw[c1.len,c2]
 grind[run_loadCells_list,a7b]
theorem b3t {size x x' vs s1}(h:a6U size x s=some (vs,s1))(hpos:0<size)(S:Sim B0 w0 K s.h w)(r:VR K x' x):∃n vs',(∀w2,(Builtin.lenOf x').run P w2=.ok n w2)/\(∀w2,(∀x,w2.cell? x=w.cell? x)->(Builtin.firstCells size n x').run P w2=.ok vs'.toArray w2)/\VRL K vs' vs/\vs'.length=n*size/\s1.h=s.h/\s1.c=s.c:=by
 cases x with
  |slice o len es=>
   cases o with
    |none=>obtain⟨hl,h1⟩:=y8 h;obtain⟨rfl,rfl⟩:=j7 h1;rcases a1H r with⟨_,_,_,p1,_⟩|⟨_,p2,p3,p4⟩;cases p1;exact⟨0,[],by rw[p4];intro _;rfl,by rw[p4];intro _ _;rfl,VRL.nil K,zu,rfl,rfl⟩|some ad=>
     rcases a1H r with⟨ad1,ad',cap,p1,p2,p3,p4,p5,p6,p7⟩|⟨p1,_⟩;cases p1;cases len with|zero=>have h1:M.pure [] s=some (vs,s1):=h;obtain⟨rfl,rfl⟩:=j7 h1;exact⟨0,[],by rw[p2];intro _;rfl,by rw[p2];simp_all[Builtin.firstCells,loadCells,loadCellsFrom],VRL.nil K,zu,rfl,rfl⟩|succ len=>have h1:M.guard (Nat.beq es size) (loadN ad ((len+1)*size)) s=some (vs,s1):=h;obtain⟨he,h2⟩:=y8 h1;obtain⟨vs',r1,r2,r3,r4,r5⟩:=c4F (P:=P) h2 S (p7 zy);exact⟨len+1,vs',by rw[p2];intro _;rfl,by rw[p2];exact r1,r2,r3,r5,r4⟩
     cases p1
  |string b=>obtain⟨hl,h1⟩:=y8 h;obtain⟨rfl,rfl⟩:=j7 h1;have hs:=xS hl;subst hs;have ex:=r.eq_of_plain rfl;refine⟨b.size,b.data.toList.map a4T,by rw[ex];intro _;rfl,by rw[ex];intro _ _;simp only[Builtin.firstCells];rw[c5D];rfl,?_,zq,rfl,rfl⟩;rw[S9];exact VRL.refl_plain _ (λy hy=>by obtain⟨z,_,rfl⟩:=uy.1 hy;rfl)|_=>exact absurd h zp
theorem b6q (newLen):∀(n c),c<=2*newLen+192->c<newLen\/True->Builtin.growBy newLen n c<=2*newLen+192|0,c,h,_=>h|n+1,c,h,_=>by unfold Builtin.growBy;split;exact h;exact b6q newLen n _ zy (Or.inr trivial)
theorem c3S (need cap)(h:cap<need):Builtin.nextslicecap need cap<=2*need+192:=by unfold Builtin.nextslicecap;split;omega;split;omega;exact b6q need 4 cap zy (Or.inr trivial)
theorem b2c {argTypes ty st xt elem dx size n base len cap x' vs' w'}(h0:argTypes[0]?=some st)(h1:argTypes[1]?=some xt)(hst:(underlying st).run P w=.ok (.slice elem) w)(hxt:(underlying xt).run P w=.ok dx w)(hdx:b1t dx=false)(hsz:(sizeOf elem).run P w=.ok size w)(hn:(Builtin.lenOf x').run P w=.ok n w)(hfc:(Builtin.firstCells size n x').run P w=.ok vs'.toArray w)(hle:len+n<=cap)(hnone:base=none->w'=w)(hsome:∀ad,base=some ad->(storeCells (ad.add (len*size)) vs').run P w=.ok () w'):(Builtin.append_ argTypes ty #[.slice base len cap,x']).run P w=.ok (.slice base (len+n) cap) w':=by unfold Builtin.append_;simp only[h0,h1];simp only[List.getElem?_toArray,sj,vT];simp only[wv,hst,xD,hsz,hxt,wb];cases dx with|int k=>cases hdx|_=>simp only[wL,vN,vt,tf,wv,hn,xD,hle,hfc];cases base with|none=>rw[hnone rfl];rfl|some ad=>simp only[wv,hsome ad rfl,xD,wb]
theorem b0I {argTypes ty st xt elem dx n e base len cap x' vs' olds}(hT:TabOk P T)(h0:argTypes[0]?=some st)(h1:argTypes[1]?=some xt)(hst:∀w,(underlying st).run P w=.ok (.slice elem) w)(hxt:∀w,(underlying xt).run P w=.ok dx w)(hdx:b1t dx=false)(he:T.types.get elem=some e)(hn:(Builtin.lenOf x').run P w=.ok n w)(hfc:(Builtin.firstCells e.size n x').run P w.drew=.ok vs'.toArray w.drew)(hold:(Builtin.firstCells e.size len (.slice base len cap)).run P w.drew=.ok olds.toArray w.drew)(hlt:cap<len+n)(hsmall:(len+n)*4<4294967296)(hb:e.bytes<4096)(hpos:0<e.size):∃nc arr,len+n<=nc/\arr.toList=olds++vs'++a3D e.zero.cells.toList (nc-(len+n))/\(Builtin.append_ argTypes ty #[.slice base len cap,x']).run P w=.ok (.slice (some ⟨w.heap.size,0,none⟩) (len+n) nc) (w.drew.alloc (.cells arr elem)):=by
 obtain⟨info,g1,g2,g3,g4,g5,g6⟩:=hT.types elem e he;let nc:=(Question.appendCap (len+n) cap elem).cut (w.tape w.drawn (Question.appendCap (len+n) cap elem));have hnc:len+n<=nc:=by show len+n<=(len+n)+_%_;omega
 refine⟨nc,olds.toArray++vs'.toArray++Builtin.zeroCells e.zero.cells (nc-(len+n)),hnc,?_,?_⟩;have hz:=b2z e.zero.cells (nc-(len+n)) (by rw[g6];exact hpos);simp only[uZ];rw[<-hz];rfl;have hnb:¬(Builtin.nextslicecap (len+n) cap*e.bytes>2^48):=by have h1:=c3S (len+n) cap hlt;have h2:Builtin.nextslicecap (len+n) cap*e.bytes<=(2*(len+n)+192)*4096:=Nat.mul_le_mul h1 zy;have:(2:Nat)^48=281474976710656:=rfl;omega
 have hni:¬(((len+n:Nat):Int)>IntKind.i64.max):=by have:IntKind.i64.max=9223372036854775807:=rfl;rw[this];omega
 have hnle:¬(len+n<=cap):=zy;unfold Builtin.append_;simp only[h0,h1];simp only[List.getElem?_toArray,sj,vT];simp only[wv,hst,xD,T8 hT he,hxt,wb];cases dx with|int k=>cases hdx|_=>simp only[wL,vN,vt,tf,wv,hn,xD,hnle,typeInfo,run_program,g1,wb,hni,false_and,g4,hnb];simp only[run_choose,Question.forced,wL,vN,xD,run_askRoom];have hd:({w with drawn:=w.drawn+1}:World)=w.drew:=rfl;simp only[hd,hold,xD,hfc,a7I hT he,newRow,wv,sR,wb];rfl
end
end Go.V
end
