import Derived.Test.YtmomonnlmbljoaaGreatDoorBab
set_option maxRecDepth 1000000
set_option maxHeartbeats 4000000
set_option linter.unusedVariables false
set_option linter.unusedSimpArgs false
section
namespace Go.V
open Go.RowKit (Below)
theorem c8e {B0 w0 K h h' w}(S:Sim B0 w0 K h w){b n cur cs ro}(ho:h.get b=some (.cells cs cur ro))(hh:∀j,h'.get j=if j=b then some (.cells (cs.take n) cur ro)else h.get j):Sim B0 w0 K h' w:=by
 have hb:h'.get b=some (.cells (cs.take n) cur ro):=xQ;have hn:∀j,j≠b->h'.get j=h.get j:=λj hj=>xP;refine⟨S.size0,S.below,S.dom',λb2 g2 l2 q=>xS,S.own,S.apart,S.same,?_,?_,?_,?_,?_,(λb2 g2 l2 q hnc=>by by_cases hx:b2=b;simp_all;exact S.gen0 b2 g2 l2 q (λcs cur ro e=>hnc cs cur ro (by rw[hn b2 hx];exact e)))⟩;intro b2 g l cs2 cur2 ro2 q1 q2 q3;by_cases hb2:b2=b;subst hb2;exact S.room b2 g l cs cur ro q1 q2 ho;rw[hn b2 hb2]at q3;exact S.room b2 g l cs2 cur2 ro2 q1 q2 q3;intro b2 cs2 cur2 ro2 q;by_cases hb2:b2=b;subst hb2;rw[hb]at q;cases q;obtain⟨r1,r2,r3⟩:=S.gens b2 cs cur ro ho;grind;rw[hn b2 hb2]at q;exact S.gens b2 cs2 cur2 ro2 q;intro b2 cs2 cur2 ro2 g l q1 q2 off v st q3 q4 q5;by_cases hb2:b2=b;subst hb2;rw[hb]at q1;cases q1;rw[tL]at q3;split at q3;exact S.cells b2 cs cur ro g l ho q2 off v st q3 q4 q5;cases q3;rw[hn b2 hb2]at q1;exact S.cells b2 cs2 cur2 ro2 g l q1 q2 off v st q3 q4 q5;intro b2 es q;have hb2:b2≠b:=λe=>by rw[e,hb]at q;cases q
 rw[hn b2 hb2]at q;exact S.map b2 es q;intro b2 x pos q;have hb2:b2≠b:=λe=>by rw[e,hb]at q;cases q
 rw[hn b2 hb2]at q;exact S.siter b2 x pos q
theorem c7h {B0 w0 K h w w'}(S:Sim B0 w0 K h w){b g cur o l cs vs'}(ho:h.get b=some (.cells cs cur false))(hk:K b g=some l)(hlo:l.lo<=cs.length)(hoo:o=l.at_+(cs.length-l.lo))(u:Upd w w' l.blk o vs'):Sim B0 w0 K h w':=by
 obtain⟨hg1,hg2,hg3⟩:=S.gens b cs cur false ho;have hown:l.own=true:=(hg1 g l hk).2 rfl;obtain⟨c,e,fz,hc1,hc2,hc3⟩:=S.room b g l cs cur false hk hown ho;refine⟨S.size0,S.below.trans (u.below (S.own b g l hk hown)),λb2 g2 l2 q=>by rw[u.size];exact S.dom' b2 g2 l2 q,S.dom2,S.own,S.apart,S.same,?_,S.gens,?_,?_,?_,S.gen0⟩;intro b2 g2 l2 cs2 cur2 ro2 q1 q2 q3;exact u.room (S.room b2 g2 l2 cs2 cur2 ro2 q1 q2 q3) hc1;intro b2 cs2 cur2 ro2 g2 l2 q1 q2 off v st q3 q4 q5;obtain⟨v',r1,r2⟩:=S.cells b2 cs2 cur2 ro2 g2 l2 q1 q2 off v st q3 q4 q5;refine⟨v',?_,r2⟩;rw[u.cell_other hc1 _ ?_];exact r1;by_cases hb2:b2=b;subst hb2;rw[ho]at q1;cases q1;by_cases hbk:l2.blk=l.blk;right;have e1:=(S.same b2 g l g2 l2 hk q2).2 hbk.symm;have e2:off<cs.length:=(wM.1 q3).1;grind;simp_all;exact Or.inl (S.apart b g l b2 g2 l2 hk q2 (ow hb2) hown).symm;intro b2 es q;have hb2:b2≠b:=λe=>by rw[e,ho]at q;cases q
 obtain⟨l2,es',clock,r1,r2,r3,r4⟩:=S.map b2 es q;exact⟨l2,es',clock,r1,r2,by rw[u.other _ (S.apart b g l b2 0 l2 hk r1 (ow hb2) hown).symm];exact r3,r4⟩;intro b2 x pos q;have hb2:b2≠b:=λe=>by rw[e,ho]at q;cases q
 obtain⟨l2,r1,r2,r3,r4,r5⟩:=S.siter b2 x pos q;exact⟨l2,r1,r2,r3,r4,by rw[u.other _ (S.apart b g l b2 0 l2 hk r1 (ow hb2) hown).symm];exact r5⟩
theorem c3T {B0 w0 K h h' w}(S:Sim B0 w0 K h w){b cur l cs}{vs:List Value}(ho:h.get b=some (.cells cs cur false))(hh:∀j,h'.get j=if j=b then some (.cells (cs++vs.map λv=>(v,cur+1)) (cur+1) false)else h.get j)(hown:l.own=true)(hl:l.blk<w.heap.size)(hB:B0<=l.blk)(hsame:∀g2 l2,K b g2=some l2->l2.blk=l.blk->l2.at_+l.lo=l.at_+l2.lo)(hapart:∀b2 g2 l2,b2≠b->K b2 g2=some l2->l2.blk≠l.blk)(hroom:∃a e fz,w.heap[l.blk]?=some (.cells a e fz)/\a.size=l.sz/\∀o,o<l.sz->w.frozen? ⟨l.blk,o,none⟩=false)(hcl:∀(off) v st,l.lo<=off->(cs++vs.map λv=>(v,cur+1))[off]?=some (v,st)->∃v',w.cell? ⟨l.blk,l.at_+(off-l.lo),none⟩=some v'/\VR K v' v):Sim B0 w0 (K.put b (cur+1) l) h' w/\K.le (K.put b (cur+1) l):=by
 obtain⟨hg1,hg2',hg3⟩:=S.gens b cs cur false ho;obtain⟨l0,hg2⟩:=hg2' cur (wQ _);have hnone:K b (cur+1)=none:=by cases q:K b (cur+1)<;>grind
 have hle:K.le (K.put b (cur+1) l):=KM.le_put K l hnone;have hb:h'.get b=some (.cells (cs++vs.map λv=>(v,cur+1)) (cur+1) false):=xQ;have hn:∀j,j≠b->h'.get j=h.get j:=λj hj=>xP;refine⟨⟨S.size0,S.below,?_,?_,?_,?_,?_,?_,?_,?_,?_,?_,λb2 g2 l2 q hnc=>by by_cases hx:b2=b;simp_all;rcases KM.put_inv q with⟨e1,_,_⟩|p1;omega;exact S.gen0 b2 g2 l2 p1 (λcs cur ro e=>hnc cs cur ro (by rw[hn b2 hx];exact e))⟩,hle⟩;intro b2 g l' q;rcases KM.put_inv q with⟨_,_,e⟩|q;rw[e];exact⟨hl,S.size0.2 _ hB⟩;exact S.dom' b2 g l' q;intro b2 g l' q;by_cases hx:b2=b;simp_all;rw[hn b2 hx];rcases KM.put_inv q with⟨e,_,_⟩|q;omega;exact S.dom2 b2 g l' q;intro b2 g l' q q2;rcases KM.put_inv q with⟨_,_,e⟩|q;rw[e];exact hB;exact S.own b2 g l' q q2;intro b1 g1 l1 b2 g2 l2 q1 q2 hne hx;rcases KM.put_inv q1 with⟨e1,_,e2⟩|p1<;>rcases KM.put_inv q2 with⟨e3,_,e4⟩|p2;omega;rw[e2];grind;rw[e4];grind;exact S.apart b1 g1 l1 b2 g2 l2 p1 p2 hne hx;intro b1 g1 l1 g2 l2 q1 q2;rcases KM.put_inv q1 with⟨e1,_,e2⟩|p1<;>rcases KM.put_inv q2 with⟨e3,_,e4⟩|p2;rw[e2,e4];simp_all;rw[e1]at p2;rw[e2];grind;rw[e3]at p1;rw[e4];grind;exact S.same b1 g1 l1 g2 l2 p1 p2;intro b2 g l1 cs2 cur2 ro2 q1 q2 q3;by_cases hb2:b2=b;subst hb2;rcases KM.put_inv q1 with⟨_,_,e2⟩|p1;rw[e2];exact hroom;exact S.room b2 g l1 cs cur false p1 q2 ho;rcases KM.put_inv q1 with⟨e1,_,_⟩|p1;omega;rw[hn b2 hb2]at q3;exact S.room b2 g l1 cs2 cur2 ro2 p1 q2 q3;intro b2 cs2 cur2 ro2 q;by_cases hb2:b2=b;subst hb2;rw[hb]at q;cases q;refine⟨λg l1 q1=>?_,λg hg=>(Nat.lt_or_eq_of_le hg).elim (λh=>let⟨l1,r⟩:=hg2' g zy;⟨l1,hle _ _ _ r⟩) (λh=>⟨l,by rw[h];exact KM.put_same _ _ _ _⟩),λc hc=>?_⟩;rcases KM.put_inv q1 with⟨_,e,e2⟩|p1;rw[e,e2];simp_all;grind;grind;rw[hn b2 hb2]at q;obtain⟨r1,r2,r3⟩:=S.gens b2 cs2 cur2 ro2 q;refine⟨λg l1 q1=>?_,λg hg=>let⟨l1,r⟩:=r2 g hg;⟨l1,hle _ _ _ r⟩,r3⟩;grind[KM.put_inv];intro b2 cs2 cur2 ro2 g l1 q1 q2 off v st q3 q4 q5;by_cases hb2:b2=b;subst hb2;rw[hb]at q1;cases q1;rcases KM.put_inv q2 with⟨_,e,e2⟩|p2;subst e2;obtain⟨v',r1,r2⟩:=hcl off v st q5 q3;exact⟨v',r1,r2.mono hle⟩;have hg:=(hg1 g l1 p2).1;have hlt:off<cs.length:=zo;rw[vF hlt]at q3;obtain⟨v',r1,r2⟩:=S.cells b2 cs cur false g l1 ho p2 off v st q3 q4 q5;exact⟨v',r1,r2.mono hle⟩;rcases KM.put_inv q2 with⟨e1,_,_⟩|p2;omega;rw[hn b2 hb2]at q1;obtain⟨v',r1,r2⟩:=S.cells b2 cs2 cur2 ro2 g l1 q1 p2 off v st q3 q4 q5;exact⟨v',r1,r2.mono hle⟩;intro b2 es q;have hb2:b2≠b:=λe=>by rw[e,hb]at q;cases q
 rw[hn b2 hb2]at q;obtain⟨l1,es',clock,r1,r2,r3,r4⟩:=S.map b2 es q;exact⟨l1,es',clock,hle _ _ _ r1,r2,r3,r4.mono hle⟩;intro b2 x pos q;have hb2:b2≠b:=λe=>by rw[e,hb]at q;cases q
 rw[hn b2 hb2]at q;obtain⟨l1,r1,r2,r3,r4,r5⟩:=S.siter b2 x pos q;exact⟨l1,hle _ _ _ r1,r2,r3,r4,r5⟩
theorem c0E {e a len m vs s s' v}(h:appendAt e a len vs m s=some (v,s')):∃g cs cur olds,a.spot=some g/\s.h.get a.block=some (.cells cs cur false)/\a.off+len*e.size<=cs.length/\y8 g (cs.drop a.off) (len*e.size)=some olds/\s'.c=s.c/\(∀j,s'.h.get j=if j=a.block then some (.cells (cs.take (a.off+len*e.size)++vs.map λv=>(v,cur+1)) (cur+1) false)else s.h.get j)/\v=.slice (some ⟨a.block,a.off,some (cur+1)⟩) (len+m) e.size:=by
 unfold appendAt at h;cases hg:a.spot with
  |none=>rw[hg]at h;cases h|some g=>
   rw[hg]at h;simp only[M.obind,M.bind,rd]at h;cases hb:Nat.blt a.block s.c with
    |false=>rw[hb]at h;cases h|true=>
     rw[hb]at h;cases ho:s.h.get a.block with
      |none=>rw[ho]at h;cases h|some o=>
       rw[ho]at h;cases o with
        |cells cs cur ro=>simp only[a7o,a0D,a2m,a0R,D9,F9]at h;cases ro with|true=>cases h|false=>simp only[ug,M.guard]at h;cases hgd:Nat.ble (a.off+len*e.size) cs.length with|false=>rw[hgd]at h;cases h|true=>rw[hgd]at h;cases ht:y8 g (cs.drop a.off) (len*e.size)with|none=>rw[ht]at h;cases h|some olds=>rw[ht]at h;simp only[Z6]at h;obtain⟨u,s1,hx,h⟩:=C8 h;obtain⟨_,w2,w3⟩:=b6M hx;cases h;exact⟨g,cs,cur,olds,rfl,rfl,vT hgd,ht,w2,w3,rfl⟩
        |map es=>cases h|siter x y=>cases h
end Go.V
end
section
namespace Go.V
open Go.RowKit (Below)
theorem b6r {n:Nat}(h:(!(Nat.beq n 0))=true):n≠0:=by intro e;simp_all
structure TabOk (P:Program) (T:Tab):Prop where
 types:∀ t i,T.types.get t=some i→∃ info,P.info? t=some info∧P.underlying t=some i.und∧info.size=i.size∧info.bytes=i.bytes∧info.zero=some i.zero∧i.zero.cells.size=i.size
 funcs:∀ f fn,T.funcs.get f=some fn→P.funcs[f]?=some fn∧(fn.name == "runtime.NumGoroutine")=false
def GK (T:Tab)(K:KM):Prop:=∀g,g<T.ng->∃l,K g 0=some l/\l.blk=g/\l.lo=0/\l.at_=0
theorem GK.mono {T K K'}(h:GK T K)(hle:K.le K'):GK T K':=λg hg=>let⟨l,e,r⟩:=h g hg;⟨l,hle _ _ _ e,r⟩
theorem a0Y {K}:∀(n) (v),K9 n v=true->VR K v v:=by intro n;induction n with|zero=>intro v h;cases h|succ n ih=>intro v h;cases v with|agg cs=>have h':J2 (K9 n) cs.toList=true:=h;rw[M4]at h';exact .agg rfl λi v' v e e'=>by rw[e]at e';grind|tuple cs=>have h':J2 (K9 n) cs.toList=true:=h;rw[M4]at h';exact .tuple rfl λi v' v e e'=>by rw[e]at e';grind|iface t v=>exact .iface (ih v h)|func fn a b=>cases h|_=>exact .plain h
theorem VR.eq_of_plain {K v' v}(r:VR K v' v)(h:V.plain v=true):v'=v:=by cases r<;>first|rfl|grind[V.plain]
theorem VR.eq_of_noAddr {K v' v}(r:VR K v' v):∀n,K9 n v=true->v'=v:=by
 induction r with
  |plain _=>grind|ptr _ _=>intro n h;cases n<;>simp[K9,V.plain]at h|slice _ _ _ _ _ _=>intro n h;cases n<;>simp[K9,V.plain]at h|map _=>intro n h;cases n<;>simp[K9,V.plain]at h| @agg cs' cs hl _ ih=>intro n h;cases n with|zero=>cases h|succ n=>have h':J2 (K9 n) cs.toList=true:=h;rw[M4]at h';congr 1;apply oH;apply uj;grind[List.getElem_mem]
  | @tuple cs' cs hl _ ih=>intro n h;cases n with|zero=>cases h|succ n=>have h':J2 (K9 n) cs.toList=true:=h;rw[M4]at h';congr 1;apply oH;apply uj;grind[List.getElem_mem]
  |func _ _ _ _ _ _=>intro n h;cases n<;>cases h|iface _ ih=>intro n h;cases n with|zero=>cases h|succ n=>rw[ih n h]
theorem O6 {T K}{a:Act}{fr}(hf:VRL K a.tmps.toList fr)(hg:GK T K){x v}(h:X7 T fr x=some v):VR K (a.eval x) v:=by cases x with|tmp t=>cases h;have:=hf.lget t;rw[a4d a.tmps.toList]at this;grind[Act.eval,Array.getD_eq_getD_getElem?]|const c=>have h':(match K9 3 c with|true=>some c|false=>none)=some v:=h;split at h';rename_i hn;cases h';exact a0Y _ _ hn;cases h'|global g=>have h':(match Nat.blt g T.ng with|true=>some (Value.pointer (some ⟨g,0,some 0⟩))|false=>none)=some v:=h;split at h';rename_i hn;cases h';obtain⟨l,e1,e2,e3,e4⟩:=hg g zn;have:=VR.ptr (off:=0) e1 zy;rw[e2,e3,e4]at this;exact this;cases h'|func f=>cases h;exact .func rfl (λi v' v e=>by simp at e) rfl (λi v' v e=>by simp at e)
theorem a6h {T K}{a:Act}{fr}(hf:VRL K a.tmps.toList fr)(hg:GK T K):∀{xs} {vs},a0T T fr xs=some vs->VRL K (xs.map a.eval) vs:=by intro xs;induction xs<;>first|rfl|grind[VRL.nil,a0T,VRL.cons,O6]
def R7 (P:Program)(B0:Nat)(w0:Base)(K:KM)(s':S)(x:Sem Next)(w:World)(v:Value):Prop:=∃n w' K',x.run P w=.ok n w'/\Step B0 w0 K s' w' K'/\((∃v',n=.value v'/\VR K' v' v)\/(n=.skip/\v=undef))
section
variable {P:Program}{T:Tab}{B0:Nat}{w0:Base}{w:World}{K:KM}{s s':S}{a:Act}{fr:List Value}{v:Value}
theorem Step.same {s1}(S:Sim B0 w0 K s.h w)(h:s1.h=s.h):Step B0 w0 K s1 w K:=⟨KM.le_refl K,λ_ _ _=>rfl,by rw[h];exact S⟩
theorem R7.quiet {x v'}(S:Sim B0 w0 K s.h w)(hs:s'.h=s.h)(hx:x.run P w=.ok v' w)(r:VR K v' v):R7 P B0 w0 K s' (do pure (Next.value (<-x))) w v:=⟨.value v',w,K,zZ,Step.same S hs,Or.inl ⟨v',rfl,r⟩⟩
theorem R7.step {x v' w' K'}(hx:x.run P w=.ok v' w')(st:Step B0 w0 K s' w' K')(r:VR K' v' v):R7 P B0 w0 K s' (do pure (Next.value (<-x))) w v:=⟨.value v',w',K',zZ,st,Or.inl ⟨v',rfl,r⟩⟩
theorem a6V {α}{x:Sem α}{y}(h:a0J P x=some y)(w):x.run P w=.ok y w:=by induction x with|pure a=>cases h;rfl|program k ih=>exact ih P h|mark m k ih=>exact ih h|_=>cases h
theorem a0b {x k}(h:ev T fr x k s=some (v,s')):∃u,X7 T fr x=some u/\k u s=some (v,s'):=G5 h
theorem a6t {xs k}(h:evs T fr xs k s=some (v,s')):∃us,a0T T fr xs=some us/\k us s=some (v,s'):=G5 h
theorem X0 {α t}{k:TI->M α}{u}(h:ti T t k s=some (u,s')):∃i,T.types.get t=some i/\k i s=some (u,s'):=G5 h
theorem a2U {α x}{k:Addr->M α}{u}(h:a0G x k s=some (u,s')):∃ad,x=.pointer (some ad)/\k ad s=some (u,s'):=by cases x with|pointer o=>obtain⟨ad,e,h⟩:=G5 h;simp_all|_=>cases h
theorem a9k {x' ad}(r:VR K x' (.pointer (some ad))):∃ad',x'=.pointer (some ad')/\VR K (.pointer (some ad')) (.pointer (some ad)):=by generalize hv:Value.pointer (some ad)=x at r;cases r with|plain hp=>grind[V.plain]|ptr hk hl=>cases hv;exact⟨_,rfl,.ptr hk hl⟩|_=>cases hv
theorem VR.fwd {ad ad':Addr}(r:VR K (.pointer (some ad')) (.pointer (some ad)))(n:Nat):VR K (.pointer (some (ad'.add n))) (.pointer (some (fwd ad n))):=by obtain⟨g,l,e1,e2,e3,rfl⟩:=a8D r;rw[a9w];obtain⟨b,off,sp⟩:=ad;cases e1;have:=VR.ptr (off:=off+n) e2 zo;rw[show l.at_+(off+n-l.lo)=l.at_+(off-l.lo)+n by grind]at this;exact this
theorem VR.cells {v' v}(r:VR K v' v):VRL K v'.cells.toList v.cells.toList:=by
 cases r with
  |agg hl ih=>exact⟨hl,ih⟩|plain hp=>cases v' with|agg cs=>simp[V.plain]at hp|_=>exact VRL.cons (.plain hp) (VRL.nil K)
  |ptr h1 h2=>exact VRL.cons (.ptr h1 h2) (VRL.nil K)|slice h1 h2 h3 h4 h5 h6=>exact VRL.cons (.slice h1 h2 h3 h4 h5 h6) (VRL.nil K)|map h1=>exact VRL.cons (.map h1) (VRL.nil K)|tuple h1 h2=>exact VRL.cons (.tuple h1 h2) (VRL.nil K)|func h1 h2 h3 h4=>exact VRL.cons (.func h1 h2 h3 h4) (VRL.nil K)|iface h=>exact VRL.cons (.iface h) (VRL.nil K)
theorem b8z (hT:TabOk P T){t:TypeId}{i}(h:T.types.get t=some i)(w):(isAgg t).run P w=.ok (b0x i.und) w:=by obtain⟨info,h1,h2,_⟩:=hT.types t i h;unfold isAgg;simp only[vg,run_underlying h2,wC];cases i.und<;>rfl
theorem a1d (hT:TabOk P T){t:TypeId}{i}(h:T.types.get t=some i)(w):(sizeOf t).run P w=.ok i.size w:=by obtain⟨info,h1,h2,h3,_⟩:=hT.types t i h;simp[sizeOf,typeInfo,h1,h3]
theorem Y9 (hT:TabOk P T){t:TypeId}{i}(h:T.types.get t=some i)(w):(underlying t).run P w=.ok i.und w:=by obtain⟨info,h1,h2,_⟩:=hT.types t i h;exact run_underlying h2 w
theorem b0q (hT:TabOk P T){t:TypeId}{i}(h:T.types.get t=some i)(w):(zeroValue t).run P w=.ok i.zero w:=by obtain⟨info,h1,h2,h3,h4,h5,h6⟩:=hT.types t i h;simp[zeroValue,typeInfo,h1,h5]
theorem b8d (hT:TabOk P T){t ad ad' u}(h:a4K T t ad s=some (u,s'))(S:Sim B0 w0 K s.h w)(r:VR K (.pointer (some ad')) (.pointer (some ad))):∃u',(loadVar t ad').run P w=.ok u' w/\VR K u' u/\s'.h=s.h/\s'.c=s.c:=by
 obtain⟨i,hi,h⟩:=X0 h;unfold loadVar;simp only[vg,b8z hT hi,wC];cases hag:b0x i.und with
  |true=>rw[hag]at h;obtain⟨_,h⟩:=G9 h;obtain⟨vs,s1,h1,h2⟩:=C8 h;obtain⟨e1,e2⟩:=q9 h2;obtain⟨vs',r1,r2,r3,r4,r5⟩:=b3N (P:=P) h1 S r;refine⟨.agg vs'.toArray,?_,?_,by rw[e2,r5],by rw[e2,r4]⟩;simp[a1d hT hi,r1];rw[e1];exact .agg xJ wU|false=>
   rw[hag]at h;obtain⟨vs,s1,h1,h2⟩:=C8 h;obtain⟨e1,e2⟩:=q9 h2;obtain⟨vs',r1,r2,r3,r4,r5⟩:=b3N (P:=P) h1 S r;refine⟨C9 vs' 0,?_,by rw[e1];exact r2.lget 0,by rw[e2,r5],by rw[e2,r4]⟩;obtain⟨x,rfl⟩:∃x,vs'=[x]:=by match vs',r3 with|[x],_=>simp_all
   have hadd:ad'.add 0=ad':=rfl;simp only[uo,tO];simp only[loadCells,loadCellsFrom,vg,hadd]at r1;rw[run_load]at r1⊢;cases hc:w.cell? ad' with|some y=>rw[hc]at r1;simp at r1;rw[r1];rfl|none=>rw[hc]at r1;cases hf:w.farLoad P ad' (Mode.plain==Mode.atomic)with|ok z=>rw[hf]at r1;cases z;simp at r1⊢;rw[r1];rfl|error z=>rw[hf]at r1;simp at r1
theorem c5A (hT:TabOk P T){t ad ad' u u' un}(h:b6C T t ad u s=some (un,s'))(S:Sim B0 w0 K s.h w)(r:VR K (.pointer (some ad')) (.pointer (some ad)))(hu:VR K u' u):∃w',(storeVar t ad' u').run P w=.ok () w'/\Sim B0 w0 K s'.h w'/\s'.c=s.c:=by
 obtain⟨i,hi,h⟩:=X0 h;obtain⟨hg,h⟩:=G9 h;simp only[wK,tZ,F9]at hg;have hn:=wR hg.2;have hc:=hu.cells;have hpos:0<u.cells.toList.length:=zo;obtain⟨w',r1,r2,r3⟩:=c6Q (P:=P) h S hpos r hc;refine⟨w',?_,r2,r3⟩;have hs:u'.cells.size=i.size:=by rw[<-uV,hc.len,hn]
 simp[storeVar,a1d hT hi,hs,r1]
end
end Go.V
end
section
namespace Go.V
open Go.RowKit (Below)
section
variable {P:Program}{T:Tab}{B0:Nat}{w0:Base}{w:World}{K:KM}{s s':S}{a:Act}{fr:List Value}{v:Value}
theorem c4M {x}(h:M.lift (X7 T fr x) s=some (v,s'))(S:Sim B0 w0 K s.h w)(hf:VRL K a.tmps.toList fr)(hg:GK T K):R7 P B0 w0 K s' (pure (Next.value (a.eval x))) w v:=by obtain⟨h1,rfl⟩:=a3i h;exact⟨_,w,K,rfl,Step.same S rfl,Or.inl ⟨_,rfl,O6 hf hg h1⟩⟩
theorem d6q {c x y}(h:b0z T fr c x y s=some (v,s'))(S:Sim B0 w0 K s.h w)(hf:VRL K a.tmps.toList fr)(hg:GK T K):R7 P B0 w0 K s' (do pure (Next.value (if<-asBool (a.eval c)then a.eval x else a.eval y))) w v:=by
 obtain⟨vc,e1,q0h⟩:=a0b h;obtain⟨va,e2,q1h⟩:=a0b q0h;obtain⟨vb,e3,q2h⟩:=a0b q1h;have r1:=O6 hf hg e1;have r2:=O6 hf hg e2;have r3:=O6 hf hg e3;cases vc with
  |bool t=>have:=r1.eq_of_plain rfl;rw[this];cases t with|true=>obtain⟨rfl,rfl⟩:=q9 q2h;exact⟨_,w,K,rfl,Step.same S rfl,Or.inl ⟨_,rfl,r2⟩⟩|false=>obtain⟨rfl,rfl⟩:=q9 q2h;exact⟨_,w,K,rfl,Step.same S rfl,Or.inl ⟨_,rfl,r3⟩⟩
  |_=>exact absurd q2h zl
theorem d7c (hT:TabOk P T){t x}(h:a7S T fr t x s=some (v,s'))(S:Sim B0 w0 K s.h w)(hf:VRL K a.tmps.toList fr)(hg:GK T K):R7 P B0 w0 K s' (do pure (Next.value (<-Instr.loadAt t (a.eval x)))) w v:=by obtain⟨vx,e1,q3h⟩:=a0b h;obtain⟨ad,rfl,q4h⟩:=a2U q3h;obtain⟨ad',e2,r⟩:=a9k (O6 hf hg e1);grind[b8d,R7.quiet,Instr.loadAt,Instr.sureAddr]
theorem d2Y (hT:TabOk P T){t x y}(h:a8z T fr t x y s=some (v,s'))(S:Sim B0 w0 K s.h w)(hf:VRL K a.tmps.toList fr)(hg:GK T K):R7 P B0 w0 K s' (do Instr.storeAt t (a.eval x) (a.eval y);pure Next.skip) w v:=by obtain⟨vx,e1,q5h⟩:=a0b h;obtain⟨vy,e2,q6h⟩:=a0b q5h;obtain⟨ad,rfl,q7h⟩:=a2U q6h;obtain⟨un,s1,h1,h2⟩:=C8 q7h;obtain⟨rfl,rfl⟩:=q9 h2;obtain⟨ad',e3,r⟩:=a9k (O6 hf hg e1);obtain⟨w',r1,r2,r3⟩:=c5A hT h1 S r (O6 hf hg e2);refine⟨.skip,w',K,?_,⟨KM.le_refl K,λ_ _ _=>rfl,r2⟩,Or.inr ⟨rfl,rfl⟩⟩;rw[e3];simp[Instr.storeAt,Instr.sureAddr,r1]
theorem b0E {vs vs' ad}(h:Y7 vs s=some (ad,s'))(S:Sim B0 w0 K s.h w)(F:a0B K s s')(hv:VRL K vs' vs)(t):∃K',Step B0 w0 K s' (w.alloc (.cells vs'.toArray t)) K'/\K' s.c 0=some ⟨w.heap.size,0,0,vs'.length,true⟩/\ad=⟨s.c,0,some 0⟩:=by have:=a6m (w':=w.alloc (.cells vs'.toArray t)) (arr:=vs'.toArray) (e:=t) (fz:=(0,0)) (rest:=[]) h S F hv (Grew.alloc _ _) yZ zq (λo _=>zq);omega
theorem d2T (hT:TabOk P T){t}(h:b4m T t s=some (v,s'))(S:Sim B0 w0 K s.h w)(F:a0B K s s'):R7 P B0 w0 K s' (do pure (Next.value (<-Instr.alloc t true (.tuple #[])))) w v:=by obtain⟨i,hi,q8h⟩:=X0 h;obtain⟨hgd,q9h⟩:=G9 q8h;obtain⟨ad,s1,h1,h2⟩:=C8 q9h;obtain⟨rfl,rfl⟩:=q9 h2;simp only[wK]at hgd;have hz:VR K i.zero i.zero:=a0Y _ _ hgd.1;obtain⟨K',r1,r2,rfl⟩:=b0E h1 S F hz.cells t;refine R7.step (v':=.pointer (some ⟨w.heap.size,0,none⟩)) (w':=w.alloc (.cells i.zero.cells t)) ?_ r1 ?_;simp[Instr.alloc,b0q hT hi,newVar,newRow];exact VR.ptr (off:=0) r2 (vC _)
theorem e2l {t x}(h:b2z T fr x s=some (v,s'))(S:Sim B0 w0 K s.h w)(F:a0B K s s')(hf:VRL K a.tmps.toList fr)(hg:GK T K):R7 P B0 w0 K s' (do pure (Next.value (<-Instr.box t (a.eval x)))) w v:=by obtain⟨vx,e1,q10h⟩:=a0b h;obtain⟨hgd,q11h⟩:=G9 q10h;obtain⟨ad,s1,h1,h2⟩:=C8 q11h;obtain⟨rfl,rfl⟩:=q9 h2;obtain⟨K',r1,r2,rfl⟩:=b0E h1 S F (O6 hf hg e1).cells t;refine R7.step (v':=.pointer (some ⟨w.heap.size,0,none⟩)) (w':=w.alloc (.cells (a.eval x).cells t)) ?_ r1 ?_;rfl;exact VR.ptr (off:=0) r2 (vC _)
theorem c1q (hT:TabOk P T){t x f}(h:a4G T fr t x f s=some (v,s'))(S:Sim B0 w0 K s.h w)(hf:VRL K a.tmps.toList fr)(hg:GK T K):R7 P B0 w0 K s' (do pure (Next.value (<-Instr.fieldAt t (a.eval x) f))) w v:=by obtain⟨vx,e1,q12h⟩:=a0b h;obtain⟨d,hd,q13h⟩:=X0 q12h;generalize hu:d.und=u at q13h;cases u with|struct fields=>obtain⟨ad,rfl,q14h⟩:=a2U q13h;obtain⟨fd,e2,q15h⟩:=G5 q14h;obtain⟨n,hn,q16h⟩:=X0 q15h;obtain⟨hgd,q17h⟩:=G9 q16h;obtain⟨rfl,rfl⟩:=q9 q17h;obtain⟨ad',e3,r⟩:=a9k (O6 hf hg e1);rw[a2J]at e2;have e2':fields[f]?=some fd:=zo;have hn0:¬n.size=0:=b6r hgd;refine R7.quiet S rfl ?_ (r.fwd fd.offset);rw[e3];simp[Instr.fieldAt,Y9 hT hd,hu,e2',Instr.sureAddr,fieldPlace,a1d hT hn,hn0]|_=>exact absurd q13h zl
theorem a3G {x' o len es}(r:VR K x' (.slice o len es)):(∃ad ad' cap,o=some ad/\x'=.slice (some ad') len cap/\len<=cap/\VR K (.slice (some ad') len cap) (.slice (some ad) len es)/\0<es/\(cap=0\/ad'.spot=none)/\(0<cap->VR K (.pointer (some ad')) (.pointer (some ad))))\/(o=none/\len=0/\es=0/\x'=.slice none 0 0):=by
 generalize hv:Value.slice o len es=x at r;cases r with
  |plain hp=>subst hv;simp[V.plain]at hp;simp_all| @slice b g off len' cap es' l a' hk hl hes hlc hsp hor=>
   cases hv;refine Or.inl ⟨_,a',cap,rfl,rfl,hlc,.slice hk hl hes hlc hsp hor,hes,hsp,λhc=>?_⟩;rcases hor with h0|⟨h1,h2,h3⟩;omega;have:a'=⟨l.blk,l.at_+(off-l.lo),none⟩:=by obtain⟨x,y,z⟩:=a';grind
   rw[this];exact .ptr hk hl|_=>cases hv
theorem a7B {x n}(h:a7R x=some n):∃k,x=.int k (Int.ofNat n):=by
 cases x with
  |int k m=>cases m with|ofNat m=>cases h;simp_all|negSucc m=>cases h
  |_=>cases h
theorem c0l (hT:TabOk P T){t x y}(h:a2R T fr t x y s=some (v,s'))(S:Sim B0 w0 K s.h w)(hf:VRL K a.tmps.toList fr)(hg:GK T K):R7 P B0 w0 K s' (do pure (Next.value (<-Instr.indexAt t (a.eval x) (a.eval y)))) w v:=by
 obtain⟨vx,e1,q18h⟩:=a0b h;obtain⟨vy,e2,q19h⟩:=a0b q18h;obtain⟨d,hd,q20h⟩:=X0 q19h;obtain⟨i,hi,q21h⟩:=G5 q20h;obtain⟨k,rfl⟩:=a7B hi;have ey:a.eval y=.int k (Int.ofNat i):=(O6 hf hg e2).eq_of_plain rfl;rw[ey];generalize hu:d.und=u at q21h;cases u with
  |array len elem=>obtain⟨ad,rfl,q22h⟩:=a2U q21h;obtain⟨e,he,q23h⟩:=X0 q22h;obtain⟨hgd,q24h⟩:=G9 q23h;obtain⟨rfl,rfl⟩:=q9 q24h;obtain⟨ad',e3,r⟩:=a9k (O6 hf hg e1);simp only[wK]at hgd;have hlt:i<len:=zn;refine R7.quiet S rfl ?_ (r.fwd (i*e.size));rw[e3];simp[Instr.indexAt,asIntOf,Y9 hT hd,hu,Instr.sureAddr,hlt,a1d hT he]|slice elem=>cases vx with|slice o len es=>obtain⟨ad,rfl,q25h⟩:=G5 q21h;obtain⟨e,he,q26h⟩:=X0 q25h;obtain⟨hg1,q27h⟩:=G9 q26h;obtain⟨e',he',q28h⟩:=X0 q27h;rw[he]at he';cases he';obtain⟨hgd,q29h⟩:=G9 q28h;obtain⟨rfl,rfl⟩:=q9 q29h;simp only[wK]at hgd;have hlt:i<len:=zn;rcases a3G (O6 hf hg e1)with⟨ad1,ad',cap,q1,q2,q3,q4,q5,q6,q7⟩|⟨q1,_⟩;cases q1;have r:=q7 zy;refine R7.quiet S rfl ?_ (r.fwd (i*e.size));rw[q2];simp[Instr.indexAt,asIntOf,Y9 hT hd,hu,hlt,a1d hT he];cases q1|_=>exact absurd q21h zl
  |_=>exact absurd q21h zl
theorem VRL.get? {l' l}(h:VRL K l' l){i:Nat}{x}(e:l[i]?=some x):∃x',l'[i]?=some x'/\VR K x' x:=by
 have hi:i<l.length:=(wM.1 e).1;have hi':i<l'.length:=by rw[h.len];exact hi
 exact⟨l'[i],wO hi',h.at_ i _ _ (wO hi') e⟩
theorem c1c (hT:TabOk P T){t cs' cs off u}(h:partV T t cs off s=some (u,s'))(hc:VRL K cs' cs)(w):∃u',(part t cs'.toArray off).run P w=.ok u' w/\VR K u' u/\s'=s:=by obtain⟨i,hi,q30h⟩:=X0 h;unfold part;simp only[vg,b8z hT hi,wC];cases hag:b0x i.und with|true=>rw[hag]at q30h;obtain⟨rfl,rfl⟩:=q9 q30h;refine⟨.agg ((cs'.drop off).take i.size).toArray,?_,?_,rfl⟩;simp only[pz,vg,a1d hT hi,wC,vK];simp_all;rw[a2m,a0D];have:=(hc.drop off).take i.size;exact .agg (by simpa using this.len) (by simpa using this.at_)|false=>rw[hag]at q30h;obtain⟨x,hx,q31h⟩:=G5 q30h;obtain⟨rfl,rfl⟩:=q9 q31h;rw[a2J]at hx;obtain⟨x',q1,q2⟩:=hc.get? hx;simp_all
theorem c9m {x' cs}(r:VR K x' (.agg cs)):∃cs',x'=.agg cs'/\VRL K cs'.toList cs.toList:=by generalize hv:Value.agg cs=x at r;cases r with|plain hp=>grind[V.plain]|agg hl ih=>cases hv;exact⟨_,rfl,⟨hl,ih⟩⟩|_=>cases hv
theorem d1O {x' cs}(r:VR K x' (.tuple cs)):∃cs',x'=.tuple cs'/\VRL K cs'.toList cs.toList:=by generalize hv:Value.tuple cs=x at r;cases r with|plain hp=>grind[V.plain]|tuple hl ih=>cases hv;exact⟨_,rfl,⟨hl,ih⟩⟩|_=>cases hv
theorem d0W (hT:TabOk P T){t x f}(h:a6w T fr t x f s=some (v,s'))(S:Sim B0 w0 K s.h w)(hf:VRL K a.tmps.toList fr)(hg:GK T K):R7 P B0 w0 K s' (do pure (Next.value (<-Instr.field t (a.eval x) f))) w v:=by
 obtain⟨vx,e1,q32h⟩:=a0b h;obtain⟨d,hd,q33h⟩:=X0 q32h;generalize hu:d.und=u at q33h;cases u with
  |struct fields=>cases vx with|agg cs=>obtain⟨fd,e2,q34h⟩:=G5 q33h;obtain⟨cs',e3,r⟩:=c9m (O6 hf hg e1);obtain⟨u',q1,q2,rfl⟩:=c1c hT q34h r w;rw[a2J]at e2;have e2':fields[f]?=some fd:=zo;refine R7.quiet S rfl ?_ q2;rw[e3];simp[Instr.field,Y9 hT hd,hu,e2',asAgg]at q1⊢;exact q1|_=>exact absurd q33h zl
  |_=>exact absurd q33h zl
theorem c7e {x i}(h:a6n T fr x i s=some (v,s'))(S:Sim B0 w0 K s.h w)(hf:VRL K a.tmps.toList fr)(hg:GK T K):R7 P B0 w0 K s' (do pure (Next.value (<-Instr.extract (a.eval x) i))) w v:=by obtain⟨vx,e1,q35h⟩:=a0b h;split at q35h;rename_i cs;obtain⟨y,e2,q36h⟩:=G5 q35h;obtain⟨rfl,rfl⟩:=q9 q36h;rw[a2J]at e2;obtain⟨cs',e3,r⟩:=d1O (O6 hf hg e1);obtain⟨y',q1,q2⟩:=r.get? e2;have q1':cs'[i]?=some y':=zo;refine R7.quiet S rfl ?_ q2;rw[e3];simp[Instr.extract,q1'];cases q35h
theorem c3I {o x}(ho:o.op=.nilCheck x)(h:a5c T fr x s=some (v,s'))(S:Sim B0 w0 K s.h w)(hf:VRL K a.tmps.toList fr)(hg:GK T K):R7 P B0 w0 K s' (execOp a.eval o) w v:=by
 obtain⟨o1,o2,o3,o4,o5,o6⟩:=o;cases ho;unfold execOp;simp only;obtain⟨vx,e1,q37h⟩:=a0b h;have r:=O6 hf hg e1;split at q37h;rename_i o;obtain⟨hgd,q38h⟩:=G9 q37h;obtain⟨rfl,rfl⟩:=q9 q38h;cases o with|none=>cases hgd|some ad=>obtain⟨ad',e2,r'⟩:=a9k r;rw[e2];exact⟨_,w,K,rfl,Step.same S rfl,Or.inl ⟨_,rfl,r'⟩⟩
 rename_i fn x1 x2;obtain⟨hgd,q39h⟩:=G9 q37h;obtain⟨rfl,rfl⟩:=q9 q39h;cases fn with
  |func f=>generalize hv:Value.func (Fn.func f) x1 x2=y at r;generalize hx:a.eval x=y' at r;cases r with|plain hp=>grind[V.plain]|func h1 h2 h3 h4=>cases hv;exact⟨_,w,K,rfl,Step.same S rfl,Or.inl ⟨_,rfl,.func h1 h2 h3 h4⟩⟩|_=>cases hv
  |_=>cases hgd
 cases q37h
theorem d1L (hT:TabOk P T){t x}(h:a8F T fr t x s=some (v,s'))(S:Sim B0 w0 K s.h w)(hf:VRL K a.tmps.toList fr)(hg:GK T K):R7 P B0 w0 K s' (do pure (Next.value (<-Instr.makeInterface t (a.eval x)))) w v:=by obtain⟨vx,e1,q40h⟩:=a0b h;obtain⟨d,hd,q41h⟩:=X0 q40h;obtain⟨hgd,q42h⟩:=G9 q41h;obtain⟨rfl,rfl⟩:=q9 q42h;refine R7.quiet S rfl ?_ (.iface (O6 hf hg e1));unfold Instr.makeInterface;simp only[vg,Y9 hT hd,wC];cases hu:d.und<;>first|rfl|(rw[hu]at hgd;cases hgd)
theorem d6g {fn x y}(h:b0r T fr fn x y s=some (v,s'))(S:Sim B0 w0 K s.h w)(hf:VRL K a.tmps.toList fr)(hg:GK T K):R7 P B0 w0 K s' (do pure (Next.value (<-Instr.makeFunc fn (x.map a.eval) (y.map a.eval)))) w v:=by obtain⟨va,e1,q43h⟩:=a6t h;obtain⟨vb,e2,q44h⟩:=a6t q43h;obtain⟨rfl,rfl⟩:=q9 q44h;have r1:=a6h hf hg e1;have r2:=a6h hf hg e2;exact R7.quiet S rfl rfl (.func (by simpa using r1.len) (by simpa using r1.at_) xJ wU)
end
end Go.V
end
section
namespace Go.V
open Go.RowKit (Below)
theorem b8R (off):∀(l:List Value) (k0) (cells:Array Value),off+k0+l.length<=cells.size->((l.zipIdx k0).foldl (λacc x=>acc.setIfInBounds (off+x.2) x.1) cells).size=cells.size/\∀k,((l.zipIdx k0).foldl (λacc x=>acc.setIfInBounds (off+x.2) x.1) cells)[k]?=if off+k0<=k/\k<off+k0+l.length then l[k-(off+k0)]? else cells[k]? |[],k0,cells,_=>⟨rfl,λk=>by rw[vN zq];rfl⟩|v::l,k0,cells,h=>by have h':off+(k0+1)+l.length<=(cells.setIfInBounds (off+k0) v).size:=zo;obtain⟨h1,h2⟩:=b8R off l (k0+1) (cells.setIfInBounds (off+k0) v) h';simp only[List.zipIdx_cons,List.foldl_cons];grind
theorem b8W:∀(vs cs) (k),(a6r vs cs)[k]?=if k<vs.length/\k<cs.length then vs[k]? else cs[k]?:=by intro vs;induction vs with|nil=>intro cs k;rfl|cons v vs ih=>intro cs k;cases cs with|nil=>show([]:List Value)[k]?=_;simp|cons c cs=>show(v::a6r vs cs)[k]?=_;grind
theorem b0Y (vs):∀(cs) (off k),(a2Y vs cs off)[k]?=if off<=k/\k<off+vs.length/\k<cs.length then vs[k-off]? else cs[k]?:=by intro cs;induction cs with|nil=>intro off k;show([]:List Value)[k]?=_;simp|cons c cs ih=>intro off k;cases off with|zero=>show(a6r vs (c::cs))[k]?=_;rw[b8W];simp|succ off=>show(c::a2Y vs cs off)[k]?=_;cases k<;>grind
theorem b2E (vs):∀(cs) (off),(a2Y vs cs off).length=cs.length:=by intro cs off;apply Nat.le_antisymm;rcases ui cs.length (a2Y vs cs off).length with h|h;have:=b0Y vs cs off cs.length;rw[vN zy,vo (wQ _),wO h]at this;cases this;exact h;rcases ui (a2Y vs cs off).length cs.length with h|h;have h1:=b0Y vs cs off (a2Y vs cs off).length;rw[vo (wQ _)]at h1;grind;exact h
theorem b5y {K}{ρ:Operand->Value}(place):∀(qs) (vs cs cs2 cs'),a7V place qs vs cs=some cs2->VRL K (qs.map λq=>ρ q.2) vs->VRL K cs' cs->∃cs2',Instr.fill place cs'.toArray (qs.map λq=>(q.1,ρ q.2))=some cs2'.toArray/\VRL K cs2' cs2:=by
 intro qs;induction qs with
  |nil=>intro vs cs cs2 cs' h hv hc;cases h;exact⟨cs',rfl,hc⟩|cons q qs ih=>
   intro vs cs cs2 cs' h hv hc;cases vs with
    |nil=>have:=hv.len;simp at this|cons v vs=>
     have h':(match place q.1 with|none=>none|some os=>match Nat.beq (x8 v.cells.toList) os.2&&Nat.ble (os.1+os.2) (x8 cs)with|true=>a7V place qs vs (a2Y v.cells.toList cs os.1)|false=>none)=some cs2:=h;cases hp:place q.1 with
      |none=>rw[hp]at h';cases h'|some os=>
       obtain⟨off,size⟩:=os;rw[hp]at h';dsimp only at h';cases hb:Nat.beq (x8 v.cells.toList) size&&Nat.ble (off+size) (x8 cs)with
        |false=>rw[hb]at h';cases h'|true=>
         rw[hb]at h';simp only[wK,F9]at hb;have hb1:=wR hb.1;have hb2:=vT hb.2;have hvc:=(hv.head).cells;have hsz:(ρ q.2).cells.size=size:=by rw[<-uV,hvc.len,hb1]
         have hcs:cs'.length=cs.length:=hc.len;obtain⟨f1,f2⟩:=b8R off (ρ q.2).cells.toList 0 cs'.toArray zn;let nc:=(((ρ q.2).cells.toList.zipIdx 0).foldl (λacc x=>acc.setIfInBounds (off+x.2) x.1) cs'.toArray);have hrel:VRL K nc.toList (a2Y v.cells.toList cs off):=by refine⟨by rw[b2E];grind,λi x' x e e'=>?_⟩;have g1:nc[i]?=some x':=zo;rw[f2 i]at g1;rw[b0Y]at e';simp only[vB,uV,hsz]at g1;by_cases hk:off<=i/\i<off+size;rw[vH hk]at g1;rw[vH (by rw[hb1];omega)]at e';exact hvc.at_ _ _ _ g1 e';rw[vN hk]at g1;rw[vN (by rw[hb1];omega)]at e';exact hc.at_ i x' x zo e'
         obtain⟨cs2',r1,r2⟩:=ih vs _ cs2 nc.toList h' hv.tail hrel;refine⟨cs2',?_,r2⟩;have hcond:¬(off+size>cs'.length):=zy;simp only[uy,Instr.fill,hp,hsz];simp only[ne_eq,not_true_eq_false,tV,vJ,sI,hcond];rw[<-r1];congr 1;rw[<-Array.foldl_toList];simp[nc,Array.toList_zipIdx]
section
variable {P:Program}{T:Tab}{B0:Nat}{w0:Base}{w:World}{K:KM}{s s':S}{a:Act}{fr:List Value}{v:Value}
theorem b8J (hT:TabOk P T):∀(fs),(∀f∈fs,b9x T f=true)->∃places,fs.mapM (λf=>(P.info? f.type).map λi=>(f.offset,i.size))=some places/\∀j,places[j]?=a5I T fs j|[],_=>⟨[],rfl,λj=>rfl⟩|f::fs,h=>by obtain⟨places,h1,h2⟩:=b8J hT fs (λg hg=>h g (vI _ hg));have hf:=h f (um ..);unfold b9x at hf;obtain⟨i,hi⟩:=tH.1 hf;obtain⟨info,g1,_,g3,_⟩:=hT.types _ _ hi;refine⟨(f.offset,i.size)::places,zn,λj=>?_⟩;cases j<;>first|rfl|grind[a5I,a2J]
theorem d2j (hT:TabOk P T){t:TypeId}{ps:Array (Nat×Operand)}(h:a8B T fr t ps s=some (v,s'))(S:Sim B0 w0 K s.h w)(hf:VRL K a.tmps.toList fr)(hg:GK T K):R7 P B0 w0 K s' (do pure (Next.value (<-Instr.build t (ps.map λ(i,x)=>(i,a.eval x))))) w v:=by
 obtain⟨vs,e1,h1⟩:=a6t h;obtain⟨i,hi,h2⟩:=X0 h1;obtain⟨hz,h3⟩:=G9 h2;obtain⟨info,g1,g2,g3,g4,g5,g6⟩:=hT.types t i hi;have hzz:VRL K i.zero.cells.toList i.zero.cells.toList:=(a0Y (K:=K) _ _ hz).cells;rw[a0R]at e1;have hv:=a6h hf hg e1;have hv':VRL K (ps.toList.map λq=>a.eval q.2) vs:=by rw[tC]at hv;exact hv
 have hparts:(ps.map λ(i,x)=>(i,a.eval x)).toList=ps.toList.map λq=>(q.1,a.eval q.2):=zq;generalize hu:i.und=u at h3;cases u with
  |struct fields=>
   obtain⟨hfs,h4⟩:=G9 h3;obtain⟨cs,hcs,h5⟩:=G5 h4;obtain⟨rfl,rfl⟩:=q9 h5;rw[M4]at hfs;obtain⟨places,p1,p2⟩:=b8J hT fields.toList hfs;obtain⟨cs2',r1,r2⟩:=b5y (ρ:=a.eval) _ ps.toList vs _ cs _ hcs hv' hzz;refine R7.quiet (v':=.agg cs2'.toArray) S rfl ?_ (.agg xJ wU);apply run_build;unfold Program.built;rw[g1,g2,hu,hparts];have hpl:(λx=>places.toArray[x]?)=a5I T fields.toList:=by funext j;rw[<-p2 j];simp
   simp_all|array n elem=>obtain⟨e,he,h4⟩:=X0 h3;obtain⟨cs,hcs,h5⟩:=G5 h4;obtain⟨rfl,rfl⟩:=q9 h5;obtain⟨einfo,k1,_,k3,_⟩:=hT.types elem e he;obtain⟨cs2',r1,r2⟩:=b5y (ρ:=a.eval) _ ps.toList vs _ cs _ hcs hv' hzz;refine R7.quiet (v':=.agg cs2'.toArray) S rfl ?_ (.agg xJ wU);apply run_build;unfold Program.built;rw[g1,g2,hu,hparts];simp only[g5,k1,k3];have:(λi:Nat=>some (i*e.size,e.size))=a1Z e.size:=rfl;rw[this];omega|_=>exact absurd h3 zl
theorem a9c (zs n):(a5N zs n).length=n*zs.length:=by induction n with|zero=>show([]:List Value).length=_;simp|succ n ih=>grind[a5N,D9]
theorem d1f (zs):∀(n k),k<n*zs.length->(a5N zs n)[k]?=zs[k%zs.length]?:=by intro n;induction n with|zero=>omega|succ n ih=>intro k h;show(D7 zs (a5N zs n))[k]?=_;rw[D9];grind[Nat.mod_eq_of_lt,List.getElem?_append_right,Nat.mod_eq_sub_mod]
theorem b5p (z:Array Value)(n)(hz:0<z.size):((Array.range (n*z.size)).map (λi=>z[i%z.size]!)).toList=a5N z.toList n:=by apply uj;grind[d1f,a9c]
theorem VRL.repl {zs:List Value}(h:VRL K zs zs)(n:Nat):VRL K (a5N zs n) (a5N zs n):=by induction n with|zero=>exact VRL.nil K|succ n ih=>show VRL K (D7 zs (V.a5N zs n)) (D7 zs (V.a5N zs n));rw[D9];exact h.append ih
theorem b8Y (hT:TabOk P T){t:TypeId}{len:Nat}{ps:Array (Nat×Operand)}(h:a3O T fr t len ps s=some (v,s'))(S:Sim B0 w0 K s.h w)(F:a0B K s s')(hf:VRL K a.tmps.toList fr)(hg:GK T K):R7 P B0 w0 K s' (do pure (Next.value (<-Instr.buildSlice t len (ps.map λ(i,x)=>(i,a.eval x))))) w v:=by
 obtain⟨vs,e1,h1⟩:=a6t h;obtain⟨d,hd,h2⟩:=X0 h1;rw[a0R]at e1;have hv:=a6h hf hg e1;have hv':VRL K (ps.toList.map λq=>a.eval q.2) vs:=by rw[tC]at hv;exact hv
 have hparts:(ps.map λ(i,x)=>(i,a.eval x)).toList=ps.toList.map λq=>(q.1,a.eval q.2):=zq;generalize hu:d.und=u at h2;cases u with
  |slice elem=>
   obtain⟨e,he,h3⟩:=X0 h2;obtain⟨hgd,h4⟩:=G9 h3;obtain⟨cs,hcs,h5⟩:=G5 h4;obtain⟨ad,s1,h6,h7⟩:=C8 h5;obtain⟨rfl,rfl⟩:=q9 h7;simp only[wK]at hgd;obtain⟨⟨⟨q1,q2⟩,q3⟩,q4⟩:=hgd;have q2:=b6r q2;have q4:=vT q4;obtain⟨info,g1,g2,g3,g4,g5,g6⟩:=hT.types elem e he;have hzz:VRL K e.zero.cells.toList e.zero.cells.toList:=(a0Y (K:=K) _ _ q3).cells;obtain⟨cs2',r1,r2⟩:=b5y (ρ:=a.eval) _ ps.toList vs _ cs _ hcs hv' (hzz.repl len);obtain⟨K',k1,k2,rfl⟩:=b0E h6 S F r2 elem;have hlen:cs2'.length=len*e.size:=by
    have:∀(qs:List (Nat×Operand)) vs cs cs2,a7V (a1Z e.size) qs vs cs=some cs2->cs2.length=cs.length:=by intro qs;induction qs with|nil=>intro vs cs cs2 h;cases h;rfl|cons q qs ih=>intro vs cs cs2 h;cases vs with|nil=>cases h|cons v vs=>have h':(match Nat.beq (x8 v.cells.toList) e.size&&Nat.ble (q.1*e.size+e.size) (x8 cs)with|true=>a7V (a1Z e.size) qs vs (a2Y v.cells.toList cs (q.1*e.size))|false=>none)=some cs2:=h;grind[b2E]
    rw[r2.len,this _ _ _ _ hcs,a9c,uV,g6]
   refine R7.step (v':=.slice (some ⟨w.heap.size,0,none⟩) len len) (w':=w.alloc (.cells cs2'.toArray elem)) ?_ k1 ?_;have hsm:¬len*e.size>2^24:=zy;by_cases h0:len*e.size=0;have hl0:len=0:=by grind[Nat.mul_eq_zero]
   subst hl0;simp only[Instr.buildSlice,vg,Y9 hT hd,hu,wC,a1d hT he,hparts];have hr:(λi=>some (i*e.size,e.size))=a1Z e.size:=rfl;have r1':Instr.fill (a1Z e.size) #[] (List.map (λq=>(q.fst,a.eval q.snd)) ps.toList)=some cs2'.toArray:=r1;have hr0:Array.range 0=#[]:=rfl;simp[hr,newRow,hr0,r1'];have hr:(λi=>some (i*e.size,e.size))=a1Z e.size:=rfl;have:=run_buildSlice w t elem len (ps.map λ(i,x)=>(i,a.eval x)) cs2'.toArray info e.zero (by rw[<-hu];exact(hT.types t d hd).choose_spec.2.1) g1 g5 (by rw[g3];exact hsm) (by rw[g3];exact h0) (by rw[g3,hr,hparts,<-r1];congr 1;grind[b5p]);exact this;refine VR.slice (off:=0) k2 (vC _) zy (wQ _) (Or.inr rfl) ?_;simp_all|_=>exact absurd h2 zl
end
end Go.V
end
section
namespace Go.V
open Go.RowKit (Below)
section
variable {P:Program}{T:Tab}{B0:Nat}{w0:Base}{w:World}{K:KM}{s s':S}{a:Act}{fr:List Value}{v:Value}
theorem b6U (n)(h:n<9223372036854775808):IntKind.i64.wrap (Int.ofNat n)=Int.ofNat n:=by unfold IntKind.wrap;have e1:(2^IntKind.i64.bits:Int)=18446744073709551616:=rfl;have e2:(2^(IntKind.i64.bits-1):Int)=9223372036854775808:=rfl;rw[e1,e2];have:(Int.ofNat n)%18446744073709551616=Int.ofNat n:=Int.emod_eq_of_lt zq (by have:(Int.ofNat n)=(n:Int):=rfl;omega);rw[this];grind
theorem d3r (zs m n):a5N zs (m+n)=a5N zs m++a5N zs n:=by induction m with|zero=>rw[vV];rfl|succ m ih=>rw[show m+1+n=(m+n)+1 by omega];grind[a5N,D9]
theorem d6I (hT:TabOk P T){t x y}(h:b0f T fr t x y s=some (v,s'))(S:Sim B0 w0 K s.h w)(F:a0B K s s')(hf:VRL K a.tmps.toList fr)(hg:GK T K):R7 P B0 w0 K s' (do pure (Next.value (<-Instr.makeSlice t (a.eval x) (a.eval y)))) w v:=by
 obtain⟨vx,e1,h1⟩:=a0b h;obtain⟨vy,e2,h2⟩:=a0b h1;obtain⟨d,hd,h3⟩:=X0 h2;generalize hu:d.und=u at h3;cases u with
  |slice elem=>
   obtain⟨e,he,h4⟩:=X0 h3;obtain⟨l,hl,h5⟩:=G5 h4;obtain⟨c,hc,h6⟩:=G5 h5;obtain⟨hgd,h7⟩:=G9 h6;obtain⟨ad,s1,h8,h9⟩:=C8 h7;obtain⟨rfl,rfl⟩:=q9 h9;obtain⟨k1,rfl⟩:=a7B hl;obtain⟨k2,rfl⟩:=a7B hc;have ex:a.eval x=.int k1 (Int.ofNat l):=(O6 hf hg e1).eq_of_plain rfl;have ey:a.eval y=.int k2 (Int.ofNat c):=(O6 hf hg e2).eq_of_plain rfl;simp only[wK]at hgd;obtain⟨⟨⟨⟨⟨q1,q2⟩,q3⟩,q4⟩,q5⟩,q6⟩:=hgd;have q1:=vT q1;have q2:c<4294967296:=by grind[Nat.blt_eq,a3W]
   have q3:e.bytes<4096:=zn;have q5:=b6r q5;obtain⟨info,g1,g2,g3,g4,g5,g6⟩:=hT.types elem e he;have hzz:VRL K e.zero.cells.toList e.zero.cells.toList:=(a0Y (K:=K) _ _ q6).cells;have hzpos:0<e.zero.cells.size:=by rw[g6];omega
   let arr:Array Value:=(Array.range (c*e.size)).map (λi=>e.zero.cells[i%e.zero.cells.size]!);have harr:arr.toList=a5N e.zero.cells.toList c:=by have:=b5p e.zero.cells c hzpos;grind
   have hsz:arr.size=c*e.size:=by simp[arr]
   obtain⟨K',r1,r2,rfl⟩:=a6m (w':=w.alloc (.cells arr elem)) (arr:=arr) (e:=elem) (fz:=(0,0)) (rest:=a5N e.zero.cells.toList (c-l)) h8 S F (hzz.repl l) (Grew.alloc _ _) yZ (by rw[harr,<-d3r];grind) (λo _=>zq);refine R7.step (v':=.slice (some ⟨w.heap.size,0,none⟩) l c) (w':=w.alloc (.cells arr elem)) ?_ r1 ?_;rw[ex,ey];have hb:(e.bytes:Int)*Int.ofNat c<2^48:=by
    have h1:e.bytes*c<4096*4294967296:=by rcases rW c with h0|h0;grind;exact wD (Nat.mul_lt_mul_of_pos_right q3 h0) (Nat.mul_le_mul_left _ zy)
    have:(e.bytes:Int)*Int.ofNat c=((e.bytes*c:Nat):Int):=zq;rw[this];omega
   have hb':¬((e.bytes:Int)*(c:Int)>281474976710656):=by have:(e.bytes:Int)*Int.ofNat c=(e.bytes:Int)*(c:Int):=rfl;omega
   simp only[Instr.makeSlice,vg,Y9 hT hd,hu,wC,asInt,asIntOf,vK,typeInfo,run_program,g1,b6U l zy,b6U c zy,g4];have hcond:(decide (Int.ofNat c<0)||decide ((e.bytes:Int)*Int.ofNat c>2^48)||decide (Int.ofNat l<0)||decide (Int.ofNat l>Int.ofNat c))=false:=zn;simp only[hcond,uo,tO,run_askRoom,vg,wC,a1d hT he];have hfin:∀z:Array Value,(z=e.zero.cells\/c*e.size=0)->(Array.range (c*e.size)).map (λx=>z[x%z.size]!)=arr:=zo;simp only[vz,Int.toNat_natCast]at*;by_cases h0:c*e.size=0;rw[vH h0];simp only[vg,vK,wC,newRow,nQ];rw[hfin #[] (Or.inr h0)];rfl;rw[vN h0];simp only[vg,b0q hT he,vK,wC,newRow,nQ];rw[hfin _ (Or.inl rfl)];rfl;refine VR.slice (off:=0) r2 (vC _) zy q1 (Or.inr rfl) (Or.inr ⟨rfl,rfl,λ_=>?_⟩);simp_all|_=>exact absurd h3 zl
theorem b3K {x n y}(h:a7R x=some n)(hn:n<=y)(code w):(Instr.sliceBound x y code).run P w=.ok n w:=by obtain⟨k,rfl⟩:=a7B h;simp[Instr.sliceBound,asIntOf,hn]
theorem a9S {lo hi l hh len cap}(isS)(h1:a2Z 0 lo=some l)(h2:a2Z len hi=some hh)(hl:l<=hh)(hle:hh<=len)(hc:len<=cap)(w):(Instr.sliceBounds isS len cap lo hi none).run P w=.ok (l,hh,cap) w:=by
 unfold Instr.sliceBounds;simp only[vg,vK,wC];cases hi with
  |none=>cases h2;simp only[vg,vK,wC];cases lo with|none=>cases h1;rfl|some x=>simp only[vg,b3K h1 hl,wC,vK]
  |some y=>simp only[vg,b3K h2 (vQ hle hc),wC];cases lo with|none=>cases h1;rfl|some x=>simp only[vg,b3K h1 hl,wC,vK]
theorem c4Q {o vs}(hf:VRL K a.tmps.toList fr)(hg:GK T K)(h:a0T T fr o.toList=some vs):(o=none/\a0l vs 0=none)\/∃x y,o=some x/\a0l vs 0=some y/\VR K (a.eval x) y:=by cases o with|none=>cases h;exact Or.inl ⟨rfl,rfl⟩|some x=>have h':(match X7 T fr x with|none=>none|some v=>some [v])=some vs:=h;split at h';cases h';rename_i y hy;cases h';exact Or.inr ⟨x,y,rfl,rfl,O6 hf hg hy⟩
theorem a4r {o:Option Operand}{vs d n}(hf:VRL K a.tmps.toList fr)(hg:GK T K)(h:a0T T fr o.toList=some vs)(hn:a2Z d (a0l vs 0)=some n):a2Z d (o.map a.eval)=some n:=by rcases c4Q hf hg h with⟨rfl,e⟩|⟨x,y,rfl,e,r⟩;rw[e]at hn;exact hn;rw[e]at hn;obtain⟨k,rfl⟩:=a7B hn;have:=r.eq_of_plain rfl;simp_all
theorem c4w {ad len elem lo hi}(h:cut T ad len elem lo hi s=some (v,s')):∃e l hh,T.types.get elem=some e/\a2Z 0 lo=some l/\a2Z len hi=some hh/\l<=hh/\hh<=len/\e.size≠0/\v=.slice (some (fwd ad (l*e.size))) (hh-l) e.size/\s'=s:=by obtain⟨e,he,h1⟩:=X0 h;obtain⟨l,hl,h2⟩:=G5 h1;obtain⟨hh,hhh,h3⟩:=G5 h2;obtain⟨hgd,h4⟩:=G9 h3;obtain⟨rfl,rfl⟩:=q9 h4;simp only[wK]at hgd;exact⟨e,l,hh,he,hl,hhh,vT hgd.1.1,vT hgd.1.2,b6r hgd.2,rfl,rfl⟩
theorem b5Q (x:ByteArray)(l h):x.extract l h=⟨⟨(x.data.toList.drop l).take (h-l)⟩⟩:=by have:=Lib.extract_data x l h;cases e:x.extract l h with|mk d=>rw[e]at this;congr 1;grind
theorem d2C (hT:TabOk P T){t x lo hi mx}(h:a8M T fr t x lo hi mx s=some (v,s'))(S:Sim B0 w0 K s.h w)(hf:VRL K a.tmps.toList fr)(hg:GK T K):R7 P B0 w0 K s' (do pure (Next.value (<-Instr.sliceAt t (a.eval x) (lo.map a.eval) (hi.map a.eval) (mx.map a.eval)))) w v:=by
 obtain⟨vlo,e1,h1⟩:=a6t h;obtain⟨vhi,e2,h2⟩:=a6t h1;obtain⟨vmx,e3,h3⟩:=a6t h2;obtain⟨vx,e4,h4⟩:=a0b h3;obtain⟨d,hd,h5⟩:=X0 h4;obtain⟨hgd,h6⟩:=G9 h5;have hmx:mx.map a.eval=none:=by rcases c4Q hf hg e3 with⟨rfl,_⟩|⟨y,z,rfl,q,_⟩;rfl;simp_all
 rw[hmx];have rx:=O6 hf hg e4;generalize hu:d.und=u at h6;cases u with
  |string=>cases vx with|string b=>obtain⟨l,hl,h7⟩:=G5 h6;obtain⟨hh,hhh,h8⟩:=G5 h7;obtain⟨hg2,h9⟩:=G9 h8;rw[Z6]at h9;obtain⟨rfl,rfl⟩:=q9 h9;simp only[wK,F9,uV]at hg2 hhh;have q1:=vT hg2.1;have q2:hh<=b.size:=vT hg2.2;have ex:=rx.eq_of_plain rfl;refine R7.quiet S rfl (v':=.string (b.extract l hh)) ?_ ?_;rw[ex];have hb:=a9S (P:=P) false (a4r hf hg e1 hl) (a4r hf hg e2 hhh) q1 q2 (wQ b.size) w;have hb':(Instr.sliceBounds false b.size b.size (lo.map a.eval) (hi.map a.eval) none).run P w=.ok (l,hh,b.size) w:=hb;simp[Instr.sliceAt,Instr.slice,Y9 hT hd,hu,hb'];rw[b5Q,a2m,a0D];exact .plain rfl|_=>exact absurd h6 zl
  |slice elem=>
   cases vx with
    |slice o len es=>
     obtain⟨e0,he0,h7⟩:=X0 h6;cases o with
      |some ad=>
       obtain⟨hes,h8⟩:=G9 h7;obtain⟨e,l,hh,he,hl,hhh,q1,q2,q3,rfl,rfl⟩:=c4w h8;rw[he0]at he;cases he;have hes:=wR hes;subst hes;rcases a3G rx with⟨ad1,ad',cap,p1,p2,p3,p4,p5,p6,p7⟩|⟨p1,_⟩;cases p1;have hb:=a9S (P:=P) true (a4r hf hg e1 hl) (a4r hf hg e2 hhh) q1 q2 p3 w;have hrun:(Instr.sliceAt t (a.eval x) (lo.map a.eval) (hi.map a.eval) none).run P w=.ok (.slice (if cap=l then some ad' else some (ad'.add (l*e0.size))) (hh-l) (cap-l)) w:=by rw[p2];simp only[Instr.sliceAt,Instr.slice,vg,Y9 hT hd,hu,wC,hb,a1d hT he0,vK];simp
       by_cases hc:cap=l;refine R7.quiet S rfl hrun ?_;rw[vH hc];generalize hv1:Value.slice (some ad') len cap=z' at p4;generalize hv2:Value.slice (some ad) len e0.size=z at p4;cases p4 with|plain hp=>grind[V.plain]|slice k1 k2 k3 k4 k5 k6=>cases hv1;cases hv2;exact VR.slice k1 (vQ k2 (qG _ _)) k3 zy (Or.inl zy) (Or.inl zy)|_=>cases hv1
       refine R7.quiet S rfl hrun ?_;rw[vN hc];generalize hv1:Value.slice (some ad') len cap=z' at p4;generalize hv2:Value.slice (some ad) len e0.size=z at p4;cases p4 with
        |plain hp=>grind[V.plain]| @slice b g off len' cap' es' l0 a0 k1 k2 k3 k4 k5 k6=>
         cases hv1;cases hv2;rcases k6 with k6|⟨k6,k7,k8⟩;omega;obtain⟨ab,ao,asp⟩:=ad';simp only at k5 k6 k7 k8;obtain k5:=k5.resolve_left zy;subst k5 k6 k7;rw[a9w];refine VR.slice k1 (vQ k2 (qG _ _)) k3 zy (Or.inr rfl) (Or.inr ⟨rfl,?_,λho=>?_⟩);grind;have:=k8 ho;dsimp only;have e1:l*e0.size+(cap-l)*e0.size=cap*e0.size:=by rw[<-tJ];grind
         omega|_=>cases hv1
       cases p1|none=>obtain⟨hl0,h7⟩:=G9 h7;obtain⟨l,hl,h8⟩:=G5 h7;obtain⟨hh,hhh,h9⟩:=G5 h8;obtain⟨hg2,h10⟩:=G9 h9;obtain⟨rfl,rfl⟩:=q9 h10;simp only[wK]at hg2;have q1:=wR hg2.1;have q2:=wR hg2.2;subst q1 q2;rcases a3G rx with⟨_,_,_,p1,_⟩|⟨_,p2,p3,p4⟩;cases p1;have hb:=a9S (P:=P) true (a4r hf hg e1 hl) (a4r hf hg e2 hhh) (wQ 0) (wQ 0) (wQ 0) w;refine R7.quiet S rfl (v':=.slice none 0 0) ?_ (.plain rfl);rw[p4];simp only[Instr.sliceAt,Instr.slice,vg,Y9 hT hd,hu,wC,hb,a1d hT he0,vK];simp
    |_=>exact absurd h6 zl
  |array n elem=>
   obtain⟨ad,rfl,h7⟩:=a2U h6;obtain⟨e0,he0,h8⟩:=X0 h7;obtain⟨us,s1,h9,h10⟩:=C8 h8;obtain⟨e,l,hh,he,hl,hhh,q1,q2,q3,rfl,rfl⟩:=c4w h10;rw[he0]at he;cases he;obtain⟨ad',p1,r⟩:=a9k rx;obtain⟨us',r1,r2,r3,r4,r5⟩:=b3N (P:=P) h9 S r;have hb:=a9S (P:=P) false (a4r hf hg e1 hl) (a4r hf hg e2 hhh) q1 q2 (wQ n) w;have hrun:(Instr.sliceAt t (a.eval x) (lo.map a.eval) (hi.map a.eval) none).run P w=.ok (.slice (some (if n=l then ad' else ad'.add (l*e0.size))) (hh-l) (n-l)) w:=by rw[p1];simp only[Instr.sliceAt,vg,Y9 hT hd,hu,wC,Instr.sureAddr,hb,a1d hT he0,vK]
   refine R7.quiet S r5 hrun ?_;obtain⟨g,cs,cur,ro,z1,z2,z3,z4,z5⟩:=a9m h9;obtain⟨g',l0,y1,y2,y3,rfl⟩:=a8D r;rw[z1]at y1;cases y1;obtain⟨vs2,x1,x2,x3⟩:=a9l S y2 y3 z2 z3;obtain⟨ab,ao,asp⟩:=ad;cases z1;by_cases hc:n=l;rw[vH hc];exact VR.slice y2 (vQ y3 (qG _ _)) zy zy (Or.inr rfl) (Or.inl zy);rw[vN hc,a9w];refine VR.slice y2 (vQ y3 (qG _ _)) zy zy (Or.inr rfl) (Or.inr ⟨rfl,?_,λho=>?_⟩);grind;obtain⟨c,et,fz,c1,c2,c3⟩:=S.room _ _ l0 cs cur ro y2 ho z2;have hpos:0<n*e0.size:=Nat.mul_pos zy zy;have hlen:vs2.length=n*e0.size:=by rw[x1.len,x2]
   have hlast:=x3 (n*e0.size-1) _ (wO zy);simp only[World.cell?,c1]at hlast;have:=(ql.1 (by simpa using hlast)).1;have e1:l*e0.size+(n-l)*e0.size=n*e0.size:=by rw[<-tJ];grind
   grind|_=>exact absurd h6 zl
end
end Go.V
end
