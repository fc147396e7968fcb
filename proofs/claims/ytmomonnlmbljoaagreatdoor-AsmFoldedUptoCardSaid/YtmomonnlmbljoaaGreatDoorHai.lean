import Derived.Test.YtmomonnlmbljoaaGreatDoorHag
import Derived.Test.YtmomonnlmbljoaaGreatDoorHah
set_option maxRecDepth 1000000
set_option maxHeartbeats 4000000
set_option linter.unusedVariables false
set_option linter.unusedSimpArgs false
section
noncomputable section
namespace Go.V
open Go.RowKit (Below)
def C8 (ext:Nat->Option (List Value->M Value))(f:Nat)(g:List Value->M Value):Nat->Option (List Value->M Value):=λi=>match Nat.beq i f with|true=>some g|false=>ext i
section
variable {P:Program}{T:Tab}{vs:a0E}
def B6 (P:Program)(T:Tab)(vs:a0E)(f:Nat)(g:List Value->M Value):Prop:=(∀aS9,Fr (g aS9))/\∀B0 w0,LaidV vs w0.w->vs.length<=B0->∀aS9 s v s' w K as',g aS9 s=some (v,s')->Sim B0 w0 K s.h w->GK T K->Q0 K s s'->VRL K as' aS9->(∃v' w' K',(callFunc f as'.toArray).run P w=.ok (.value v') w'/\Step B0 w0 K s' w' K'/\VR K' v' v)\/((callFunc f as'.toArray).run P w=.ok (.enter f as'.toArray) w/\Calls P f as'.toArray w λe w'=>∃v' K',e=.returned v'/\Step B0 w0 K s' w' K'/\VR K' v' v)
theorem a7z {ext}(hE:a0z P T vs ext){f g}(hg:B6 P T vs f g):a0z P T vs (C8 ext f g):=by
 intro B0 w0 hL hB;have h0:=hE B0 w0 hL hB;constructor;intro i m hm aS9;unfold C8 at hm;cases hb:Nat.beq i f with|true=>rw[hb]at hm;cases hm;exact hg.1 aS9|false=>rw[hb]at hm;exact h0.1 i m hm aS9
 intro i m hm;unfold C8 at hm;cases hb:Nat.beq i f with|true=>rw[hb]at hm;cases hm;obtain rfl:=xS hb;exact hg.2 B0 w0 hL hB|false=>rw[hb]at hm;exact h0.2 i m hm
theorem a7i {K as' aS9}(h:VRL K as' aS9)(hn:A9 (C1 8) aS9=true):as'=aS9:=by
 apply wE;intro i;by_cases hi:i<aS9.length;have hi':i<as'.length:=by rw[h.len];exact hi
 have r:=h.at_ i _ _ (xP hi') (xP hi);rw[xP hi',xP hi,r.eq_of_noAddr 8 ((C9 _ _).1 hn aS9[i] (vo hi))];rw[ww (by rw[h.len];omega),ww zy]
def b3A (f:List Value->Option (List Value))(aS9:List Value):M Value:=M.obind (f aS9) λxs=>M.bind (M5 xs) λa=>a6t (j9 xs) λn=>M.pure (.slice (some a) n 1)
theorem b8Z {f:Nat}{g}(hg:∀aS9 xs,g aS9=some xs->A9 (C1 8) aS9=true/\A9 plain xs=true/\∀w,LaidV vs w->(callFunc f aS9.toArray).run P w=.ok (.enter f aS9.toArray) w/\Calls P f aS9.toArray w λe w'=>e=.returned (.slice (some ⟨w.heap.size,0,none⟩) xs.length xs.length)/\∃t,w'=w.alloc (.cells xs.toArray t)):B6 P T vs f (b3A g):=by
 refine⟨λaS9=>Fr.obind _ λxs=>Fr.bind (Fr.newCells _) λa=>?_,?_⟩;rw[a0C];exact Fr.pure _;intro B0 w0 hL hB aS9 s v s' w K as' h S hG F has;obtain⟨xs,e1,h1⟩:=x8 h;obtain⟨a,s1,h2,h3⟩:=o7 h1;rw[a0C,y9]at h3;obtain⟨e2,rfl⟩:=j7 h3;obtain⟨g1,g2,g3⟩:=hg aS9 xs e1;rw[a7i has g1];obtain⟨c1,c2⟩:=g3 w (hL.below S.below hB);refine Or.inr ⟨c1,c2.mono λe w' ⟨q1,t,q2⟩=>?_⟩;have hblk:w'.heap[w.heap.size]?=some (.cells xs.toArray t (0,0)):=by rw[q2];exact World.alloc_heap_new w _
 have hx:VRL K xs xs:=⟨rfl,λi v' v h1 h2=>by rw[h1]at h2;cases h2;exact .plain ((C9 _ _).1 g2 _ (we h1))⟩;obtain⟨K',k1,k2,k3⟩:=a3T (rest:=[]) h2 S F hx (by rw[q2];exact Grew.alloc w _) hblk zu (λo _=>zu);refine⟨_,K',q1,k1,?_⟩;rw[e2,k3];refine VR.slice (a':=⟨w.heap.size,0,none⟩) k2 (wR _) zy (xR _) (Or.inr rfl) (Or.inr ⟨rfl,rfl,λ_=>zu⟩)
end
def a9t (l:List UInt8):List UInt8->List (List UInt8):=List.rec (motive:=λ_=>List UInt8->List (List UInt8)) (λcur=>match cur with|[]=>[]|c::cs=>[c::cs]) (λb _ ih cur=>match Lib.isSp b with
 |true=>match cur with|[]=>ih []|c::cs=>(c::cs)::ih []
 |false=>ih (m9 cur [b])) l
theorem c3D (l):∀cur,a9t l cur=Lib.fieldsGo cur l:=by induction l with|nil=>intro cur;cases cur<;>rfl|cons b l ih=>intro cur;show(match Lib.isSp b with|true=>(match cur with|[]=>a9t l []|c::cs=>(c::cs)::a9t l [])|false=>a9t l (m9 cur [b]))=_;rw[Lib.fieldsGo];grind[v8]
def a8S (aS9:List Value):Option (List Value):=match aS9 with
 |[]=>none|v::rest=>match rest with
  |[]=>match v with
   |.string s=>match A9 (λb=>Nat.blt b.toNat 128) s.data.toList&&Nat.blt (j9 s.data.toList) 4294967281 with|true=>some (G4 (λl=>Value.string ⟨⟨l⟩⟩) (a9t s.data.toList []))|false=>none
   |_=>none
  |_::_=>none
theorem c0J {aS9 xs}(h:a8S aS9=some xs):∃s,aS9=[.string s]/\s.size<4294967281/\(∀(j:Nat) b,s.data.toList[j]?=some b->b.toNat<128)/\xs=(Lib.fields s.data.toList).map λl=>Value.string ⟨l.toArray⟩:=by
 unfold a8S at h;split at h;cases h;split at h;split at h;rename_i s;cases hb:A9 (λb=>Nat.blt b.toNat 128) s.data.toList&&Nat.blt (j9 s.data.toList) 4294967281 with|false=>rw[hb]at h;cases h|true=>rw[hb]at h;cases h;simp only[xM]at hb;refine⟨s,rfl,?_,λj b hj=>?_,?_⟩;have:=hb.2;rw[y9]at this;have:s.data.toList.length<4294967281:=zq;simp_all;have:=(C9 _ _).1 hb.1 b (we hj);simp_all;rw[S9,c3D];rfl
 cases h;cases h
end Go.V
end
section
namespace Go.V
open Go.RowKit (Below)
theorem Trie.bound {α}(t:Trie α):∃c,∀i,c<=i->t.get i=none:=by induction t with|leaf=>simp_all[Trie.get_leaf]|node v l r ihl ihr=>obtain⟨a,ha⟩:=ihl;obtain⟨b,hb⟩:=ihr;refine⟨2*a+2*b+3,λi hi=>?_⟩;obtain⟨k,rfl⟩:∃k,i=k+1:=⟨i-1,zy⟩;rw[Trie.get_node_succ];grind
def b1A (a d c:Nat):Nat->Prop:=λi=>i<c/\¬(a<=i/\i<d)
theorem b2b {P T vs}(hT:TabOk P T)(hM:P.follows .mixedOrders=true){ext}(hE:a0z P T vs ext){N}{sh}(hs:a5S P T ext N sh){f}{fn}{c}(hPf:P.funcs[f]?=some fn)(hnum:(fn.name== "runtime.NumGoroutine")=false)(hb:fn.body=some c){g}(hFr:∀aS9,Fr (g aS9))(h:∀aS9 s v s1,g aS9 s=some (v,s1)->∀c',s.c<=c'->s1.c<=c'->(∀i,c'<=i->s.h.get i=none)->∃n v2 s2 m,j0 sh n f aS9 ⟨c',s.h,s.r,s.w⟩=some (.ret v2,s2)/\View (b1A s.c s1.c c') m s.h s1.h s2.h/\VRen (b1A s.c s1.c c') m v v2/\∀i,s1.c<=i->i<c'->s2.h.get i=s.h.get i):B6 P T vs f g:=by
 refine⟨hFr,?_⟩;intro B0 w0 hL hB aS9 s v s1 w K as' hg S hG F has;have hE':=hE B0 w0 hL hB;obtain⟨c0,hc0⟩:=Trie.bound s.h;obtain⟨dr,dw,_,_,hle1,_,hdw,_,hkeep,_⟩:=hFr aS9 s v s1 hg;obtain⟨n,v2,s2,m,hrun,hV,hv,hfor⟩:=h aS9 s v s1 hg (c0+s.c+s1.c) zy zy (λi hi=>hc0 i zy);generalize hc':c0+s.c+s1.c=c' at hrun hV hv hfor;have hbig:∀i,c'<=i->s.h.get i=none:=λi hi=>hc0 i zy;refine Or.inr ⟨J5 hPf hnum hb,?_⟩;rcases a8B hT hM hE' hs n f aS9 ⟨c',s.h,s.r,s.w⟩ (.ret v2) s2 w K as' hrun S hG (λi hi _=>hbig i hi) has with⟨v1,v',w',K',_,q1,_⟩|⟨_,q⟩;rw[J5 hPf hnum hb]at q1;cases q1;refine q.mono λe w' hq=>?_;obtain⟨v',K2,e1,st,r⟩:=hq;have hn:∀b x,m b=some x->¬b1A s.c s1.c c' b:=λb x e=>(hV.new b x.1 x.2 e).1;have hob:∀b o,s.h.get b=some o->b1A s.c s1.c c' b:=λb o ho=>by refine⟨?_,λhx=>?_⟩;grind;rw[F b hx.1 hx.2]at ho;cases ho
 refine⟨v',KR (b1A s.c s1.c c') m K2,e1,⟨λb g' l hk=>?_,λi g' hi=>?_,d8x hV S st.le hob st.sim⟩,VR.ren hn hv r⟩;obtain⟨o,ho⟩:=S.dom2 b g' l hk;rw[a4j (hob b o ho)];exact st.le b g' l hk;by_cases hlt:i<c';rw[a4j ⟨hlt,zy⟩];exact c5z S st.sim st.le (hfor i hi hlt) g';have hsn:s.h.get i=none:=hbig i zy;rw[S.none hsn g'];cases hk:KR (b1A s.c s1.c c') m K2 i g' with|none=>rfl|some l=>rcases b3Q hk with⟨hb',_⟩|⟨_,_,b2,g2,hm,_⟩;exact absurd hb'.1 hlt;obtain⟨_,_,cs,ds,e2,_⟩:=hV.new i b2 g2 hm;have:s1.h.get i=s.h.get i:=hkeep i (λhx=>by have:=hdw i hx;omega);rw[this,hsn]at e2;cases e2
end Go.V
end
section
noncomputable section
namespace Go.V
def O2 (h:Trie VObj)(i:Nat)(o:VObj):Trie VObj:=Trie.put (some o) (i+1) h i
theorem c2k (h i o j):(O2 h i o).get j=if j=i then some o else h.get j:=Trie.get_put _ _ _ _ (xG _) _
theorem a9O {h i o j}(e:j=i):(O2 h i o).get j=some o:=by rw[c2k,wT e]
theorem c9 {h i o j}(e:j≠i):(O2 h i o).get j=h.get j:=by rw[c2k,wX e]
theorem d9 (h i o):(O2 h i o).get i=some o:=a9O rfl
section
variable {α β:Type}(c:Nat)(h:Trie VObj)(r w:List Nat)
theorem e4B (m:M α)(f:α->M β):M.bind m f ⟨c,h,r,w⟩=match m ⟨c,h,r,w⟩with|none=>none|some x=>f x.1 x.2:=xK rfl rfl
theorem e4E (a:α):M.pure a ⟨c,h,r,w⟩=some (a,⟨c,h,r,w⟩):=xK rfl rfl
theorem b1u (i:Nat):rd i ⟨c,h,r,w⟩=match Nat.blt i c with
 |true=>match h.get i with|some o=>some (o,⟨c,h,i::r,w⟩)|none=>none
 |false=>none:=xK rfl rfl
theorem b1r (i:Nat)(o:VObj):wr i o ⟨c,h,r,w⟩=match Nat.blt i c with
 |true=>match h.get i with|some _=>some ((),⟨c,O2 h i o,r,i::w⟩)|none=>none
 |false=>none:=by unfold wr;cases Nat.blt i c with|false=>rfl|true=>cases h.get i with|none=>rfl|some _=>simp only;rw[Trie.putK_eq];rfl
theorem c1U (o):new o ⟨c,h,r,w⟩=some (c,⟨c+1,O2 h c o,r,c::w⟩):=by rw[b1v];rfl
theorem b9s (m:M α):M.foot m ⟨c,h,r,w⟩=match m ⟨c,h,[],[]⟩with|none=>none|some x=>some ((x.1,(x.2.r,x.2.w)),⟨x.2.c,x.2.h,m9 x.2.r r,m9 x.2.w w⟩):=xK rfl rfl
end
theorem D6 {α}(a:α):M.foot (M.pure a)=M.pure (a,([],[])):=xK rfl rfl
theorem r9 {α β}(a)(f:α->M β):M.obind (some a) f=f a:=xK rfl rfl
theorem F6 {α}(m:M α):M.guard true m=m:=xK rfl rfl
theorem b1k {α}(a:α):M.lift (some a)=M.pure a:=xK rfl rfl
theorem a2w {α}(l:List α):m9 [] l=l:=xK rfl rfl
theorem a2T {α}(x:α)(l m):m9 (x::l) m=x::m9 l m:=xK rfl rfl
theorem a3p {α}(cs cur ro)(k:List (Value×Nat)->Nat->Bool->M α):a5h (.cells cs cur ro) k=k cs cur ro:=xK rfl rfl
theorem a2j {α}(a)(k:Addr->M α):R5 (.pointer (some a)) k=k a:=xK rfl rfl
theorem A5 {a b}(h:a<b):Nat.blt a b=true:=zq
theorem V6 {a b:Nat}(h:a<=b):Nat.ble a b=true:=ux h
theorem Q5 {a b:Nat}(h:a≠b):Nat.beq a b=false:=by grind[Nat.eq_of_beq_eq_true]
theorem I4 (a:Nat):Nat.beq a a=true:=zu
theorem a4X (a:Nat):Nat.ble 0 a=true:=xK rfl rfl
theorem I6 (g cs):j8 g cs 0=some []:=by cases cs<;>rfl
theorem W5 (g:Nat)(v:Value)(st:Nat)(cs:List (Value×Nat))(n:Nat):j8 g ((v,st)::cs) (n+1)=match Nat.ble st g with
 |true=>match j8 g cs n with|some vs=>some (v::vs)|none=>none
 |false=>none:=xK rfl rfl
theorem J7 {α}(l:List α):z7 l 0=l:=by cases l<;>rfl
theorem a5j {α}(x:α)(l n):z7 (x::l) (n+1)=z7 l n:=xK rfl rfl
theorem c1Z {α}(l:List α):Q2 l 0=[]:=by cases l<;>rfl
theorem b5l {α}(x:α)(l n):Q2 (x::l) (n+1)=x::Q2 l n:=xK rfl rfl
theorem a2z {α β}(f:α->β):G4 f []=[]:=xK rfl rfl
theorem a1z {α β}(f:α->β)(x l):G4 f (x::l)=f x::G4 f l:=xK rfl rfl
theorem a4W {α}:j9 ([]:List α)=0:=xK rfl rfl
theorem W3 {α}(x:α)(l):j9 (x::l)=j9 l+1:=xK rfl rfl
theorem a5d {α}(f:α->Bool):A9 f []=true:=xK rfl rfl
theorem E8 {α}(x:α)(l):O6 (x::l) 0=some x:=xK rfl rfl
theorem E6 {α}(x:α)(l n):O6 (x::l) (n+1)=O6 l n:=xK rfl rfl
theorem a0u (g cs):a0W g [] cs=cs:=xK rfl rfl
theorem a0e (g v vs c cs):a0W g (v::vs) (c::cs)=(v,g)::a0W g vs cs:=xK rfl rfl
theorem a2h (g vs c cs):Z7 g vs (c::cs) 0=some (a0W g vs (c::cs)):=xK rfl rfl
theorem a9B (g:Nat)(vs:List Value)(c:Value×Nat)(cs:List (Value×Nat))(n:Nat):Z7 g vs (c::cs) (n+1)=match Z7 g vs cs n with|some cs'=>some (c::cs')|none=>none:=xK rfl rfl
def d8 {α:Type}(r:Option (α×S))(Q:α->S->Prop):Prop:=∃a s,r=some (a,s)/\Q a s
theorem d8.mono {α}{r:Option (α×S)}{Q R}(h:d8 r Q)(k:∀a s,Q a s->R a s):d8 r R:=let⟨a,s,e,q⟩:=h;⟨a,s,e,k a s q⟩
theorem d8.pure {α}{a:α}{s Q}(h:Q a s):d8 (M.pure a s) Q:=⟨a,s,rfl,h⟩
theorem d8.some {α}{a:α}{s Q}(h:Q a s):d8 (Option.some (a,s)) Q:=⟨a,s,rfl,h⟩
theorem d8.bind {α β m}{f:α->M β}{s P Q}(h:d8 (m s) P)(k:∀a s',P a s'->d8 (f a s') Q):d8 (M.bind m f s) Q:=by obtain⟨a,s',e,p⟩:=h;show d8 (match m s with|none=>none|Option.some x=>f x.1 x.2) Q;rw[e];grind
abbrev W9:=List Nat×List Nat
section
variable (p:Program)(T:Tab)
def c1A (v:Value)(vs:List Value)(k:Nat->List Value->M Value):M Value:=match v with
 |.func fn first captured=>match fn with|.func g=>k g (m9 first.toList (m9 vs captured.toList))|_=>M.fail
 |_=>M.fail
def a9S (call:Nat->List Value->M Value)(ops:List Oper)(fr:List Value)(o:Oper):M (Value×W9):=bcase (Y2 ops fr o) (M.foot (M7 p T call fr o.op)) (M.pure (undef,([],[])))
def a1b {β:Type}(call:Nat->List Value->M Value)(ops os:List Oper):List Value->List W9->(List Value->List W9->M β)->M β:=List.rec (motive:=λ_=>List Value->List W9->(List Value->List W9->M β)->M β) (λfr acc k=>k fr acc) (λo _ ih fr acc k=>M.bind (a9S p T call ops fr o) λx=>ih (G2 fr o x.1) (m9 acc [x.2]) k) os
theorem c8q {β}(call ops):∀(os) (fr) (acc) (k:List Value->List W9->M β),M.bind (a0o p T call ops os fr) (λy=>k y.1 (acc++y.2))=a1b p T call ops os fr acc k:=by
 intro os;induction os with
  |nil=>intro fr acc k;show M.bind (M.pure (fr,[])) _=k fr acc;rw[V.e3y,xJ]|cons o os ih=>
   intro fr acc k;show M.bind (match Y2 ops fr o with|true=>M.bind (M.foot (M7 p T call fr o.op)) λx=>a5X x.1 λv=>M.bind (a0o p T call ops os (G2 fr o v)) λy=>M.pure (y.1,x.2::y.2)|false=>M.bind (a0o p T call ops os (G2 fr o undef)) λy=>M.pure (y.1,([],[])::y.2)) _=M.bind (a9S p T call ops fr o) λx=>a1b p T call ops os (G2 fr o x.1) (m9 acc [x.2]) k;have key:∀(v:Value) (F:W9),M.bind (M.bind (a0o p T call ops os (G2 fr o v)) λy=>M.pure (y.1,F::y.2)) (λy=>k y.1 (acc++y.2))=a1b p T call ops os (G2 fr o v) (m9 acc [F]) k:=by grind[Z2,v8,V.e3y]
   grind[a9S,o9,Z2,a6b,m7,V.e3y]
theorem c8d (call ops n U vs W):b3S p T call ops n U vs W=a1b p T (Y3 call) ops ops (C5 U vs (O7 n)) [] λfr F=>M.guard (a0U ops (a2v ops F) [] [] 0) (M.pure (.normal,G3 fr W)):=by rw[<-c8q];rfl
end
def b3T (ops:List Oper)(pj:List Nat)(j:Nat)(y:Oper)(xs:List Oper):Nat->Option (List (Nat×Nat)):=List.rec (motive:=λ_=>Nat->Option (List (Nat×Nat))) (λ_=>some []) (λx _ ih i=>match a0D i pj with
 |true=>ih (i+1)|false=>match L9 (a0G x) (a1r ops y)&&L9 (a0G x) (a0G y)&&L9 (a0G y) (a1r ops x)with
  |true=>match ih (i+1)with|some L=>some ((i,j)::L)|none=>none
  |false=>none) xs
def b3l (ops ys:List Oper):List Oper->List (List Nat)->Nat->Option (List (Nat×Nat)):=List.rec (motive:=λ_=>List Oper->List (List Nat)->Nat->Option (List (Nat×Nat))) (λ_ _ _=>some []) (λy _ ih xs ps n=>match a5i n y.after.toList with
 |true=>match b3T ops (a2H (a3K ps) y.after.toList) n y xs 0 with
  |some L=>match ih (m9 xs [y]) (m9 ps [a2H (a3K ps) y.after.toList]) (n+1)with|some L'=>some (m9 L L')|none=>none
  |none=>none
 |false=>none) ys
def a4E (x y:W9):Bool:=L9 x.2 y.1&&L9 x.2 y.2&&L9 y.2 x.1
def V5 (L:List (Nat×Nat))(F:List W9):Bool:=A9 (λij=>match O6 F ij.1 with
 |some x=>match O6 F ij.2 with|some y=>a4E x y|none=>false
 |none=>false) L
theorem c9M {ops pj j}{y:Oper×W9}{F}(hy:F[j]?=some y.2):∀(xs:List (Oper×W9)) (i) (L),b3T ops pj j y.1 (xs.map (·.1)) i=some L->(∀(k) (x),xs[k]?=some x->F[i+k]?=some x.2)->a5u ops pj y xs i=V5 L F:=by
 intro xs;induction xs with
  |nil=>intro i L h _;cases h;rfl|cons x xs ih=>
   intro i L h hF;have h':(match a0D i pj with
    |true=>b3T ops pj j y.1 (xs.map (·.1)) (i+1)|false=>match L9 (a0G x.1) (a1r ops y.1)&&L9 (a0G x.1) (a0G y.1)&&L9 (a0G y.1) (a1r ops x.1)with
     |true=>match b3T ops pj j y.1 (xs.map (·.1)) (i+1)with|some L=>some ((i,j)::L)|none=>none
     |false=>none)=some L:=h;show(match a0D i pj||free2 ops x y with|true=>a5u ops pj y xs (i+1)|false=>false)=V5 L F;have hF':∀(k:Nat) (x:Oper×W9),xs[k]?=some x->F[i+1+k]?=some x.2:=λk z hz=>by have:=hF (k+1) z zr;rw[show i+1+k=i+(k+1) by omega];exact this
   cases hm:a0D i pj with
    |true=>rw[hm]at h';rw[vw];grind|false=>
     rw[hm]at h';simp only at h';split at h';rename_i hst;split at h';rename_i L' hL';cases h';have hx:=hF 0 x rfl;rw[wV]at hx;have e1:V5 ((i,j)::L') F=(a4E x.2 y.2&&V5 L' F):=by grind[V5,I7,a0J]
     have e2:free2 ops x y=a4E x.2 y.2:=by simp_all[free2,a4E]
     rw[e1,e2,wZ,<-ih (i+1) L' hL' hF'];cases a4E x.2 y.2<;>rfl;cases h';cases h'
theorem c5g (L L' F):V5 (m9 L L') F=(V5 L F&&V5 L' F):=by grind[V5,v8,c1v]
theorem d2O {ops F}:∀(ys xs:List (Oper×W9)) (ps) (n) (L),xs.length=n->(∀(k:Nat) (x),(xs++ys)[k]?=some x->F[k]?=some x.2)->b3l ops (ys.map (·.1)) (xs.map (·.1)) ps n=some L->a0U ops ys xs ps n=V5 L F:=by
 intro ys;induction ys with
  |nil=>intro xs ps n L _ _ h;cases h;rfl|cons y ys ih=>
   intro xs ps n L hn hF h;have h':(match a5i n y.1.after.toList with
    |true=>match b3T ops (a2H (a3K ps) y.1.after.toList) n y.1 (xs.map (·.1)) 0 with
     |some L=>match b3l ops (ys.map (·.1)) (m9 (xs.map (·.1)) [y.1]) (m9 ps [a2H (a3K ps) y.1.after.toList]) (n+1)with|some L'=>some (m9 L L')|none=>none
     |none=>none
    |false=>none)=some L:=h;show(match a5i n y.1.after.toList&&a5u ops (a2H (a3K ps) y.1.after.toList) y xs 0 with|true=>a0U ops ys (m9 xs [y]) (m9 ps [a2H (a3K ps) y.1.after.toList]) (n+1)|false=>false)=_;split at h';rename_i he;split at h';rename_i L1 h1;split at h';rename_i L2 h2;cases h';have hy:F[n]?=some y.2:=hF n y (by rw[wo zy,hn];simp);have hp:=c9M hy xs 0 L1 h1 (λk x hx=>by rw[wt];grind);rw[he,hp,c5g,<-ih (m9 xs [y]) (m9 ps [a2H (a3K ps) y.1.after.toList]) (n+1) L2 (by rw[v8];simp[hn]) (λk x hx=>hF k x (by rw[v8]at hx;grind)) (by rw[v8 xs,wJ];rw[v8 (xs.map _)]at h2;exact h2),vj];cases V5 L1 F<;>rfl;cases h';cases h';cases h'
theorem c5u {α β}:∀(l:List α) (m:List β),j9 m=j9 l->(a2v l m).map (·.1)=l/\(∀(k:Nat) x,(a2v l m)[k]?=some x->m[k]?=some x.2):=by intro l;induction l with|nil=>intro m _;exact⟨rfl,λk x h=>by simp[a2v]at h⟩|cons a l ih=>intro m hm;cases m with|nil=>simp[y9]at hm|cons b m=>obtain⟨h1,h2⟩:=ih m (by grind[y9]);refine⟨by simp_all[a2v],λk x hx=>?_⟩;cases k with|zero=>have:some (a,b)=some x:=hx;grind|succ k=>exact h2 k x hx
theorem d3o {ops L}(h:b3l ops ops [] [] 0=some L){F:List W9}(hl:j9 F=j9 ops):a0U ops (a2v ops F) [] [] 0=V5 L F:=by obtain⟨h1,h2⟩:=c5u ops F hl;exact d2O (a2v ops F) [] [] 0 L rfl (λk x hx=>h2 k x hx) (by rw[h1];exact h)
end Go.V
end
section
noncomputable section
namespace Go.V
def vO (fr:List Value):Operand->Value|.tmp t=>r6 fr t|.const v=>v|.global g=>.pointer (some ⟨g,0,some 0⟩)|.func f=>.func (.func f) #[] #[]
def vL (fr:List Value)(os:List Operand):List Value:=G4 (vO fr) os
section
variable (T:Tab)
def okO:Operand->Bool|.const v=>C1 3 v|.global g=>Nat.blt g T.ng|_=>true
def X0 (os:List Operand):Bool:=A9 (okO T) os
def a4I (t:TypeId):Option Nat:=(T.types.get t).map (·.size)
def c6B (t:TypeId):Option Nat:=match T.types.get t with
 |some i=>match Nat.beq i.size 0 with|true=>none|false=>some i.size
 |none=>none
def a6G (t:TypeId):Option (Option Nat):=match T.types.get t with
 |some i=>match a8i i.und with
  |true=>match Nat.beq i.size 0 with|true=>none|false=>some (some i.size)
  |false=>some none
 |none=>none
def c6q (t:TypeId):Option (List Value):=match T.types.get t with
 |some i=>match C1 8 i.zero&& !(a0l i.zero.cells.toList)with|true=>some i.zero.cells.toList|false=>none
 |none=>none
def b9b (t:TypeId)(f:Nat):Option (Nat×TypeId):=match T.types.get t with
 |some i=>match i.und with
  |.struct fs=>match O6 fs.toList f with|some fd=>some (fd.offset,fd.type)|none=>none
  |_=>none
 |none=>none
def d0E (t:TypeId)(f:Nat):Option Nat:=match b9b T t f with
 |some x=>match c6B T x.2 with|some _=>some x.1|none=>none
 |none=>none
def b3j (t:TypeId)(f:Nat):Option (Nat×Option Nat):=match b9b T t f with
 |some x=>match T.types.get x.2 with
  |some i=>match a8i i.und with|true=>some (x.1,some i.size)|false=>some (x.1,none)
  |none=>none
 |none=>none
def b5x (t:TypeId):Option Nat:=match T.types.get t with
 |some i=>match i.und with|.slice e=>a4I T e|_=>none
 |none=>none
def d6Z (t:TypeId):Option (Nat×Nat):=match T.types.get t with
 |some i=>match i.und with
  |.array n e=>match a4I T e with|some s=>some (s,n)|none=>none
  |_=>none
 |none=>none
def a5f (t:TypeId):Bool:=match T.types.get t with
 |some i=>match i.und with|.string=>true|_=>false
 |none=>false
def c3J (t:TypeId):Option IntKind:=match T.types.get t with
 |some i=>match i.und with|.int k=>some k|_=>none
 |none=>none
def d7c (t:TypeId):Bool:=(T.types.get t).isSome
def c1l (t:TypeId):Bool:=match T.types.get t with|some i=>!(b8k i.und)|none=>false
def d1L (t:TypeId):Bool:=match T.types.get t with|some i=>b7W i.und|none=>false
def a3c (place:Nat->Option (Nat×Nat))(qs:List (Nat×Operand)):Option (List (Nat×Nat)):=List.rec (motive:=λ_=>Option (List (Nat×Nat))) (some []) (λq _ ih=>match place q.1 with|none=>none|some os=>match ih with|none=>none|some l=>some (os::l)) qs
def c1k (t:TypeId)(ps:List (Nat×Operand)):Option (List (Nat×Nat)×List Value):=match T.types.get t with
 |some i=>match C1 8 i.zero with
  |true=>match i.und with
   |.struct fields=>match A9 (b6W T) fields.toList with|true=>(a3c (a3y T fields.toList) ps).map λl=>(l,i.zero.cells.toList)|false=>none
   |.array _ elem=>match a4I T elem with|some n=>(a3c (Z1 n) ps).map λl=>(l,i.zero.cells.toList)|none=>none
   |_=>none
  |false=>none
 |none=>none
def b6e (t:TypeId)(len:Nat)(ps:List (Nat×Operand)):Option (Nat×List (Nat×Nat)×List Value):=match T.types.get t with
 |some i=>match i.und with
  |.slice elem=>match T.types.get elem with
   |some e=>match Nat.beq (j9 e.zero.cells.toList) e.size&& !(Nat.beq e.size 0)&&C1 8 e.zero&&Nat.ble (len*e.size) 16777216 with|true=>(a3c (Z1 e.size) ps).map λl=>(e.size,l,a3D e.zero.cells.toList len)|false=>none
   |none=>none
  |_=>none
 |none=>none
def d0C (tys:List TypeId):Option TypeId:=match tys with
 |[st,xt]=>match T.types.get st with
  |some i=>match i.und with
   |.slice e=>match T.types.get xt with
    |some d=>match T.types.get e with
     |some te=>match !b1t d.und&& !(Nat.beq te.size 0)with|true=>some e|false=>none
     |none=>none
    |none=>none
   |_=>none
  |none=>none
 |_=>none
def a8M (t:TypeId):TI:=match T.types.get t with|some i=>i|none=>⟨.bool,0,0,undef⟩
end
section
variable {p:Program}{T:Tab}{fr:List Value}
theorem a3m {x}(h:okO T x=true):K4 T fr x=some (vO fr x):=by cases x with|const v=>have h:C1 3 v=true:=h;unfold K4;simp only[h];rfl|global g=>have h:Nat.blt g T.ng=true:=h;unfold K4;simp only[h];rfl|_=>rfl
theorem b2N {os}(h:X0 T os=true):T0 T fr os=some (vL fr os):=by induction os with|nil=>rfl|cons o os ih=>unfold X0 at h;rw[I7,xM]at h;show(match K4 T fr o with|none=>none|some v=>match T0 T fr os with|none=>none|some vs=>some (v::vs))=_;rw[a3m h.1,ih h.2];rfl
theorem P7 {x}(h:okO T x=true)(k):ev T fr x k=k (vO fr x):=by unfold ev;rw[a3m h];rfl
theorem a2k {x}(h:X0 T x=true)(k):evs T fr x k=k (vL fr x):=by unfold evs;rw[b2N h];rfl
theorem R3 {α}{t:TypeId}{i}(h:T.types.get t=some i)(k:TI->M α):ti T t k=k i:=by unfold ti;rw[h];rfl
theorem d7D {c a b}(h:X0 T [c,a,b]=true):E4 p T fr (.pick c a b)=a2f (vO fr c) (vO fr a) (vO fr b):=by simp only[X0,I7,xM]at h;show a8a T fr c a b=_;unfold a8a;rw[P7 h.1,P7 h.2.1,P7 h.2.2.1];rfl
theorem d2G {t zs}(h:c6q T t=some zs):E4 p T fr (.alloc t)=c9H zs:=by show b1B T t=_;unfold c6q at h;cases e:T.types.get t with|none=>rw[e]at h;cases h|some i=>rw[e]at h;simp only at h;split at h;rename_i q;cases h;unfold b1B;rw[R3 e,q];rfl;cases h
theorem d9j {t x}(h:okO T x=true):E4 p T fr (.box t x)=a9M (vO fr x):=by show a9x T fr x=_;unfold a9x;rw[P7 h];rfl
theorem b5n {place}:∀{ps} {os},(a3c place ps=some os)->∀(vs cs),a5D place ps vs cs=a3a os vs cs:=by intro ps;induction ps with|nil=>intro os h vs cs;cases h;rfl|cons q ps ih=>intro os h vs cs;have h:(match place q.1 with|none=>none|some os=>match a3c place ps with|none=>none|some l=>some (os::l))=some os:=h;cases e:place q.1 with|none=>rw[e]at h;cases h|some o=>rw[e]at h;cases e2:a3c place ps with|none=>rw[e2]at h;cases h|some l=>rw[e2]at h;cases h;cases vs with|nil=>rfl|cons v vs=>show(match place q.1 with|none=>none|some os=>match Nat.beq (j9 v.cells.toList) os.2&&Nat.ble (os.1+os.2) (j9 cs)with|true=>a5D place ps vs (a1a v.cells.toList cs os.1)|false=>none)=_;rw[e];simp only[ih e2];rfl
theorem d3W {t ps os zs}(h:c1k T t ps.toList=some (os,zs))(ho:X0 T (G4 (·.2) ps.toList)=true):E4 p T fr (.build t ps)=c7p os (vL fr (G4 (·.2) ps.toList)) zs:=by
 show a6n T fr t ps=_;unfold a6n;rw[a2k ho];unfold c1k at h;cases e:T.types.get t with
  |none=>rw[e]at h;cases h|some i=>
   rw[e]at h;rw[R3 e];simp only at h⊢;split at h;rename_i q;rw[q];show(match i.und with|.struct fields=>_|.array _ elem=>_|_=>M.fail)=_;split at h;rename_i fields qu;split at h;rename_i qa;rw[qa];cases e2:a3c (a3y T fields.toList) ps.toList with|none=>rw[e2]at h;cases h|some l=>rw[e2]at h;cases h;show M.obind (a5D _ _ _ _) _=_;rw[b5n e2];rfl
   cases h;rename_i n elem qu;cases e3:T.types.get elem with|none=>grind[a4I]|some te=>rw[R3 e3];simp only[a4I,e3,Option.map]at h;cases e2:a3c (Z1 te.size) ps.toList with|none=>rw[e2]at h;cases h|some l=>rw[e2]at h;cases h;rw[b5n e2];rfl
   cases h;cases h
theorem c7H {t len ps n os zs}(h:b6e T t len ps.toList=some (n,os,zs))(ho:X0 T (G4 (·.2) ps.toList)=true):E4 p T fr (.buildSlice t len ps)=a7O n len os (vL fr (G4 (·.2) ps.toList)) zs:=by
 show a1O T fr t len ps=_;unfold a1O;rw[a2k ho];unfold b6e at h;cases e:T.types.get t with
  |none=>rw[e]at h;cases h|some i=>
   rw[e]at h;rw[R3 e];simp only at h⊢;split at h;rename_i elem qu;rw[qu];simp only;cases e3:T.types.get elem with
    |none=>rw[e3]at h;cases h|some te=>
     rw[e3]at h;rw[R3 e3];simp only at h;split at h;rename_i qa;rw[qa];cases e2:a3c (Z1 te.size) ps.toList with|none=>rw[e2]at h;cases h|some l=>rw[e2]at h;cases h;show M.obind (a5D _ _ _ _) _=_;rw[b5n e2];rfl
     cases h
   cases h
theorem d2Y {t x}(h:a6G T t=some none)(ho:okO T x=true):E4 p T fr (.load t x)=a6S (vO fr x):=by show a5A T fr t x=_;grind[a5A,P7,a6G,a6S,a2F,R3]
theorem d2u {t x n}(h:a6G T t=some (some n))(ho:okO T x=true):E4 p T fr (.load t x)=a7Q n (vO fr x):=by show a5A T fr t x=_;unfold a5A;rw[P7 ho];unfold a6G at h;cases e:T.types.get t with|none=>rw[e]at h;cases h|some i=>rw[e]at h;simp only at h;split at h;rename_i q;split at h;cases h;rename_i q2;cases h;unfold a7Q;congr 1;funext a;unfold a2F;rw[R3 e,q,q2];rfl;cases h
theorem d4a {t x y n}(h:a4I T t=some n)(ho:X0 T [x,y]=true):E4 p T fr (.store t x y)=b4f n (vO fr x) (vO fr y):=by simp only[X0,I7,xM]at ho;show a6e T fr t x y=_;unfold a6e;rw[P7 ho.1,P7 ho.2.1];unfold a4I at h;cases e:T.types.get t with|none=>rw[e]at h;cases h|some i=>rw[e]at h;grind[b4f,b3O,R3]
theorem e0F {x}(ho:okO T x=true):E4 p T fr (.nilCheck x)=d7I (vO fr x):=by show a2X T fr x=_;unfold a2X;rw[P7 ho];rfl
theorem e0R {op t t' x y}(ho:X0 T [x,y]=true):E4 p T fr (.binOp op t x y t')=R9 p T op t x y (vO fr x) (vO fr y):=by simp only[X0,I7,xM]at ho;show b0i p T fr op t x y=_;unfold b0i;rw[P7 ho.1,P7 ho.2.1];rfl
theorem e3O {op t x}(ho:okO T x=true):E4 p T fr (.unOp op t x)=xUn p op (vO fr x):=by show b2W p T fr op x=_;unfold b2W;rw[P7 ho];rfl
theorem d3f {s d x k}(h:c3J T d=some k)(hs:d7c T s=true)(ho:okO T x=true):E4 p T fr (.convert s d x)=b8C k (vO fr x):=by show a2g T fr s d x=_;unfold a2g;rw[P7 ho];unfold c3J at h;unfold d7c at hs;cases e:T.types.get d with|none=>rw[e]at h;cases h|some i=>rw[e]at h;cases e2:T.types.get s with|none=>rw[e2]at hs;cases hs|some j=>simp only at h;unfold a9y;rw[R3 e2,R3 e];split at h;rename_i q;cases h;rw[q];rfl;cases h
theorem d5q {s d x}(h:c3J T d=none)(ho:okO T x=true):E4 p T fr (.convert s d x)=a9y T s d (vO fr x):=by show a2g T fr s d x=_;grind[a2g,P7]
theorem d3u {t x}(h:c1l T t=true)(ho:okO T x=true):E4 p T fr (.makeInterface t x)=M.pure (.iface t (vO fr x)):=by show a6d T fr t x=_;unfold a6d;rw[P7 ho];unfold c1l at h;cases e:T.types.get t with|none=>rw[e]at h;cases h|some i=>rw[e]at h;rw[R3 e];simp only at h;rw[h];rfl
theorem d8J {fn a b}(h:X0 T a.toList=true)(h':X0 T b.toList=true):E4 p T fr (.makeFunc fn a b)=d0D fn (vL fr a.toList) (vL fr b.toList):=by show a7V T fr fn a b=_;unfold a7V;rw[a2k h,a2k h'];rfl
theorem d7Z {t}:E4 p T fr (.makeMap t none)=c2F:=rfl
theorem d5F {t x}(h:d1L T t=true)(ho:okO T x=true):E4 p T fr (.makeMap t (some x))=e0u (vO fr x):=by show a9X T fr t (some x)=_;unfold a9X;simp only;rw[P7 ho];unfold d1L at h;cases e:T.types.get t with|none=>rw[e]at h;cases h|some i=>rw[e]at h;rw[R3 e];simp only at h;rw[h];rfl
theorem d4w {t l c}(ho:X0 T [l,c]=true):E4 p T fr (.makeSlice t l c)=a9E T t (vO fr l) (vO fr c):=by simp only[X0,I7,xM]at ho;show a8c T fr t l c=_;grind[a8c,P7]
theorem b8j {t x lo hi}(ho:okO T x=true)(h1:X0 T lo.toList=true)(h2:X0 T hi.toList=true):E4 p T fr (.slice t x lo hi none)=b0R T t (vO fr x) (lo.map (vO fr)) (hi.map (vO fr)) none:=by show a6c T fr t x lo hi none=_;unfold a6c;rw[a2k h1,a2k h2];show evs T fr [] _=_;rw[a2k rfl,P7 ho];cases lo<;>cases hi<;>rfl
theorem c8u {t x lo hi}(h:a5f T t=true)(ho:okO T x=true)(h1:X0 T lo.toList=true)(h2:X0 T hi.toList=true):E4 p T fr (.slice t x lo hi none)=a4w (vO fr x) (lo.map (vO fr)) (hi.map (vO fr)):=by rw[b8j ho h1 h2];unfold a5f at h;cases e:T.types.get t with|none=>rw[e]at h;cases h|some i=>rw[e]at h;unfold b0R;rw[R3 e];simp only at h;split at h;rename_i q;rw[q];rfl;cases h
theorem c8D {t x lo hi n}(h:b5x T t=some n)(ho:okO T x=true)(h1:X0 T lo.toList=true)(h2:X0 T hi.toList=true):E4 p T fr (.slice t x lo hi none)=a5r n (vO fr x) (lo.map (vO fr)) (hi.map (vO fr)):=by
 rw[b8j ho h1 h2];unfold b5x at h;cases e:T.types.get t with
  |none=>rw[e]at h;cases h|some i=>
   rw[e]at h;unfold b0R;rw[R3 e];simp only at h;split at h;rename_i el q;rw[q];unfold a4I at h;cases e2:T.types.get el with
    |none=>rw[e2]at h;cases h|some j=>
     rw[e2]at h;cases h;unfold a5r;show(match vO fr x with
      |.slice a len es=>ti T el λe=>match a with|some a=>M.guard (Nat.beq es e.size)<|cut T a len el _ _|none=>M.guard (Nat.beq len 0)<|cutNil _ _
      |_=>M.fail)=_;grind[R3,cut,cutN]
   cases h
theorem e6d {t x f n}(h:d0E T t f=some n)(ho:okO T x=true):E4 p T fr (.fieldAddr t x f)=xFA n (vO fr x):=by
 show a2p T fr t x f=_;unfold a2p;rw[P7 ho];unfold d0E b9b at h;cases e:T.types.get t with
  |none=>rw[e]at h;cases h|some i=>
   rw[e]at h;unfold b0e;rw[R3 e];simp only at h;cases u:i.und with
    |struct fs=>rw[u]at h;simp only at h⊢;cases g:O6 fs.toList f with|none=>rw[g]at h;cases h|some fd=>rw[g]at h;simp only[c6B]at h;cases e2:T.types.get fd.type with|none=>rw[e2]at h;cases h|some j=>rw[e2]at h;simp only at h;cases q:Nat.beq j.size 0 with|true=>rw[q]at h;cases h|false=>rw[q]at h;cases h;unfold xFA;congr 1;funext a;show ti T fd.type _=_;rw[R3 e2,q];rfl
    |_=>rw[u]at h;cases h
theorem e4I {t x f n}(h:b3j T t f=some (n,none))(ho:okO T x=true):E4 p T fr (.field t x f)=xF1 n (vO fr x):=by
 show a4x T fr t x f=_;unfold a4x;rw[P7 ho];unfold b3j b9b at h;cases e:T.types.get t with
  |none=>rw[e]at h;cases h|some i=>
   rw[e]at h;rw[R3 e];simp only at h;cases u:i.und with
    |struct fs=>rw[u]at h;simp only at h⊢;cases g:O6 fs.toList f with|none=>rw[g]at h;cases h|some fd=>rw[g]at h;simp only at h;cases e2:T.types.get fd.type with|none=>rw[e2]at h;cases h|some j=>rw[e2]at h;simp only at h;split at h;cases h;rename_i q;cases h;unfold xF1;cases vO fr x with|agg cs=>show partV T _ _ _=_;grind[partV,R3]|_=>rfl
    |_=>rw[u]at h;cases h
theorem e5o {t x f n m}(h:b3j T t f=some (n,some m))(ho:okO T x=true):E4 p T fr (.field t x f)=xFN n m (vO fr x):=by
 show a4x T fr t x f=_;unfold a4x;rw[P7 ho];unfold b3j b9b at h;cases e:T.types.get t with
  |none=>rw[e]at h;cases h|some i=>
   rw[e]at h;rw[R3 e];simp only at h;cases u:i.und with
    |struct fs=>
     rw[u]at h;simp only at h⊢;cases g:O6 fs.toList f with
      |none=>rw[g]at h;cases h|some fd=>
       rw[g]at h;simp only at h;cases e2:T.types.get fd.type with
        |none=>rw[e2]at h;cases h|some j=>
         rw[e2]at h;simp only at h;split at h;rename_i q;cases h;unfold xFN;cases vO fr x with|agg cs=>show partV T _ _ _=_;grind[partV,R3]|_=>rfl
         cases h
    |_=>rw[u]at h;cases h
theorem e0H {t x i n}(h:b5x T t=some n)(ho:X0 T [x,i]=true):E4 p T fr (.indexAddr t x i)=a6i n (vO fr x) (vO fr i):=by
 simp only[X0,I7,xM]at ho;show a0N T fr t x i=_;unfold a0N;rw[P7 ho.1,P7 ho.2.1];unfold b5x at h;cases e:T.types.get t with
  |none=>rw[e]at h;cases h|some d=>
   rw[e]at h;unfold a7v;rw[R3 e];simp only at h;cases u:d.und with
    |slice el=>rw[u]at h;simp only[a4I]at h;cases e2:T.types.get el with|none=>rw[e2]at h;cases h|some j=>rw[e2]at h;cases h;unfold a6i;congr 1;funext k;show(match vO fr x with|.slice a len es=>M.obind a λa=>ti T el λe=>M.guard (Nat.beq es e.size)<|elemAt T a k len el|_=>M.fail)=_;grind[R3,elemAt,elemAtN]
    |_=>rw[u]at h;cases h
theorem e0c {t x i n m}(h:d6Z T t=some (n,m))(ho:X0 T [x,i]=true):E4 p T fr (.indexAddr t x i)=d5E n m (vO fr x) (vO fr i):=by
 simp only[X0,I7,xM]at ho;show a0N T fr t x i=_;unfold a0N;rw[P7 ho.1,P7 ho.2.1];unfold d6Z at h;cases e:T.types.get t with
  |none=>rw[e]at h;cases h|some d=>
   rw[e]at h;unfold a7v;rw[R3 e];simp only at h;cases u:d.und with
    |array len el=>rw[u]at h;simp only[a4I]at h;cases e2:T.types.get el with|none=>rw[e2]at h;cases h|some j=>rw[e2]at h;grind[d5E,elemAt,elemAtN,R3]
    |_=>rw[u]at h;cases h
theorem d5w {t x i}(h:a5f T t=true)(ho:X0 T [x,i]=true):E4 p T fr (.index t x i)=b3C (vO fr x) (vO fr i):=by simp only[X0,I7,xM]at ho;show a6j T fr t x i=_;grind[a6j,P7,a5f,b3C,R3]
theorem c8x {t x i ok}(ho:X0 T [x,i]=true):E4 p T fr (.lookup t x i ok)=a8Q T t (vO fr x) (vO fr i) ok:=by simp only[X0,I7,xM]at ho;show a5c T fr t x i ok=_;grind[a5c,P7]
theorem d0L {t m k x}(ho:X0 T [m,k,x]=true):E4 p T fr (.mapUpdate t m k x)=c2w T t (vO fr m) (vO fr k) (vO fr x):=by simp only[X0,I7,xM]at ho;show a1R T fr t m k x=_;unfold a1R;rw[P7 ho.1,P7 ho.2.1,P7 ho.2.2.1];rfl
theorem e0O {t m k x}(ho:X0 T [m,k,x]=true):E4 p T fr (.insert t m k x)=c2w T t (vO fr m) (vO fr k) (vO fr x):=d0L (p:=p) ho
theorem e1j {x i}(ho:okO T x=true):E4 p T fr (.extract x i)=d7a i (vO fr x):=by show a3P T fr x i=_;unfold a3P;rw[P7 ho];rfl
theorem d2x {t x}(h:a5f T t=true)(ho:okO T x=true):E4 p T fr (.range t x)=d4k (vO fr x):=by show a6h T fr t x=_;unfold a6h;rw[P7 ho];unfold a5f at h;cases e:T.types.get t with|none=>rw[e]at h;cases h|some d=>rw[e]at h;simp only at h;split at h;rename_i q;rw[R3 e,q];rfl;cases h
theorem d6n {x}(ho:okO T x=true):E4 p T fr (.next x true)=e3d (vO fr x):=by show a7L T fr x true=_;unfold a7L;show ev T fr x _=_;rw[P7 ho];rfl
theorem d6u {x t}(h:a5f T t=true)(ho:okO T x=true):S5 p T fr .len #[x] #[t]=a7r (vO fr x):=by unfold S5;rw[a2k (by show X0 T [x]=true;unfold X0;rw[I7,ho];rfl)];unfold a5f at h;cases e:T.types.get t with|none=>rw[e]at h;cases h|some d=>rw[e]at h;simp only at h;split at h;rename_i q;show ti T t _=_;rw[R3 e,q];rfl;cases h
theorem d6S {x t n}(h:b5x T t=some n)(ho:okO T x=true):S5 p T fr .len #[x] #[t]=b7e (vO fr x):=by unfold S5;rw[a2k (by show X0 T [x]=true;unfold X0;rw[I7,ho];rfl)];unfold b5x at h;cases e:T.types.get t with|none=>rw[e]at h;cases h|some d=>rw[e]at h;simp only at h;split at h;rename_i q;show ti T t _=_;rw[R3 e,q];rfl;cases h
theorem d9Y {s x a b e}(h:d0C T [a,b]=some e)(ho:X0 T [s,x]=true):S5 p T fr .append #[s,x] #[a,b]=a2B (a8M T e) (vO fr s) (vO fr x):=by
 unfold S5;rw[a2k zy];show M.guard true (appendV T _ _)=_;show ti T a (λd=>ti T b λdx=>_)=_;unfold d0C at h;simp only at h;cases e1:T.types.get a with
  |none=>rw[e1]at h;cases h|some i=>
   rw[e1]at h;simp only at h;cases u:i.und with
    |slice el=>rw[u]at h;simp only at h;cases e2:T.types.get b with|none=>rw[e2]at h;cases h|some d=>rw[e2]at h;simp only at h;cases e3:T.types.get el with|none=>rw[e3]at h;cases h|some te=>rw[e3]at h;simp only at h;split at h;rename_i q;cases h;rw[R3 e1,R3 e2,u];show ti T e _=_;rw[R3 e3,q];unfold a8M;rw[e3];rfl;cases h
    |_=>rw[u]at h;cases h
theorem d9t {a ts}(ho:X0 T a.toList=true):S5 p T fr .max a ts=d5C p ts (vL fr a.toList):=by unfold S5;rw[a2k ho];rfl
theorem e0X {a ts}(ho:X0 T a.toList=true):S5 p T fr .min a ts=e5R p ts (vL fr a.toList):=by unfold S5;rw[a2k ho];rfl
end
end Go.V
end
