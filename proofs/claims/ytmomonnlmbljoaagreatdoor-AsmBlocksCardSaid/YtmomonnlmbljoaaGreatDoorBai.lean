import Derived.Test.YtmomonnlmbljoaaGreatDoorBag
import Derived.Test.YtmomonnlmbljoaaGreatDoorBah
set_option maxRecDepth 1000000
set_option maxHeartbeats 4000000
set_option linter.unusedVariables false
set_option linter.unusedSimpArgs false
section
noncomputable section
namespace Go.V
open Go.RowKit (Below)
def M5 (ext:Nat->Option (List Value->M Value))(f:Nat)(g:List Value->M Value):Nat->Option (List Value->M Value):=λi=>match Nat.beq i f with|true=>some g|false=>ext i
section
variable {P:Program}{T:Tab}{vs:a2G}
def J9 (P:Program)(T:Tab)(vs:a2G)(f:Nat)(g:List Value->M Value):Prop:=(∀aS9,Fr (g aS9))/\∀B0 w0,LaidV vs w0.w->vs.length<=B0->∀aS9 s v s' w K as',g aS9 s=some (v,s')->Sim B0 w0 K s.h w->GK T K->a0B K s s'->VRL K as' aS9->(∃v' w' K',(callFunc f as'.toArray).run P w=.ok (.value v') w'/\Step B0 w0 K s' w' K'/\VR K' v' v)\/((callFunc f as'.toArray).run P w=.ok (.enter f as'.toArray) w/\Calls P f as'.toArray w λe w'=>∃v' K',e=.returned v'/\Step B0 w0 K s' w' K'/\VR K' v' v)
theorem a9T {ext}(hE:a2B P T vs ext){f g}(hg:J9 P T vs f g):a2B P T vs (M5 ext f g):=by
 intro B0 w0 hL hB;have h0:=hE B0 w0 hL hB;constructor;intro i m hm aS9;unfold M5 at hm;cases hb:Nat.beq i f with|true=>rw[hb]at hm;cases hm;exact hg.1 aS9|false=>rw[hb]at hm;exact h0.1 i m hm aS9
 intro i m hm;unfold M5 at hm;cases hb:Nat.beq i f with|true=>rw[hb]at hm;cases hm;obtain rfl:=wR hb;exact hg.2 B0 w0 hL hB|false=>rw[hb]at hm;exact h0.2 i m hm
theorem a9D {K as' aS9}(h:VRL K as' aS9)(hn:J2 (K9 8) aS9=true):as'=aS9:=by
 apply uj;intro i;by_cases hi:i<aS9.length;have hi':i<as'.length:=by rw[h.len];exact hi
 have r:=h.at_ i _ _ (wO hi') (wO hi);rw[wO hi',wO hi,r.eq_of_noAddr 8 ((M4 _ _).1 hn aS9[i] (uP hi))];rw[vo (by rw[h.len];omega),vo zy]
def b6H (f:List Value->Option (List Value))(aS9:List Value):M Value:=M.obind (f aS9) λxs=>M.bind (Y7 xs) λa=>a8x (x8 xs) λn=>M.pure (.slice (some a) n 1)
theorem c1I {f:Nat}{g}(hg:∀aS9 xs,g aS9=some xs->J2 (K9 8) aS9=true/\J2 plain xs=true/\∀w,LaidV vs w->(callFunc f aS9.toArray).run P w=.ok (.enter f aS9.toArray) w/\Calls P f aS9.toArray w λe w'=>e=.returned (.slice (some ⟨w.heap.size,0,none⟩) xs.length xs.length)/\∃t,w'=w.alloc (.cells xs.toArray t)):J9 P T vs f (b6H g):=by
 refine⟨λaS9=>Fr.obind _ λxs=>Fr.bind (Fr.newCells _) λa=>?_,?_⟩;rw[a2F];exact Fr.pure _;intro B0 w0 hL hB aS9 s v s' w K as' h S hG F has;obtain⟨xs,e1,h1⟩:=G5 h;obtain⟨a,s1,h2,h3⟩:=C8 h1;rw[a2F,F9]at h3;obtain⟨e2,rfl⟩:=q9 h3;obtain⟨g1,g2,g3⟩:=hg aS9 xs e1;rw[a9D has g1];obtain⟨c1,c2⟩:=g3 w (hL.below S.below hB);refine Or.inr ⟨c1,c2.mono λe w' ⟨q1,t,q2⟩=>?_⟩;have hblk:w'.heap[w.heap.size]?=some (.cells xs.toArray t (0,0)):=by rw[q2];exact World.alloc_heap_new w _
 have hx:VRL K xs xs:=⟨rfl,λi v' v h1 h2=>by rw[h1]at h2;cases h2;exact .plain ((M4 _ _).1 g2 _ (vP h1))⟩;obtain⟨K',k1,k2,k3⟩:=a6m (rest:=[]) h2 S F hx (by rw[q2];exact Grew.alloc w _) hblk zq (λo _=>zq);refine⟨_,K',q1,k1,?_⟩;rw[e2,k3];refine VR.slice (a':=⟨w.heap.size,0,none⟩) k2 (vC _) zy (wQ _) (Or.inr rfl) (Or.inr ⟨rfl,rfl,λ_=>zq⟩)
end
def b1u (l:List UInt8):List UInt8->List (List UInt8):=List.rec (motive:=λ_=>List UInt8->List (List UInt8)) (λcur=>match cur with|[]=>[]|c::cs=>[c::cs]) (λb _ ih cur=>match Lib.isSp b with
 |true=>match cur with|[]=>ih []|c::cs=>(c::cs)::ih []
 |false=>ih (D7 cur [b])) l
theorem c7w (l):∀cur,b1u l cur=Lib.fieldsGo cur l:=by induction l with|nil=>intro cur;cases cur<;>rfl|cons b l ih=>intro cur;show(match Lib.isSp b with|true=>(match cur with|[]=>b1u l []|c::cs=>(c::cs)::b1u l [])|false=>b1u l (D7 cur [b]))=_;rw[Lib.fieldsGo];cases Lib.isSp b<;>first|rfl|grind[D9]
def b1t (aS9:List Value):Option (List Value):=match aS9 with
 |[]=>none|v::rest=>match rest with
  |[]=>match v with
   |.string s=>match J2 (λb=>Nat.blt b.toNat 128) s.data.toList&&Nat.blt (x8 s.data.toList) 4294967281 with|true=>some (U0 (λl=>Value.string ⟨⟨l⟩⟩) (b1u s.data.toList []))|false=>none
   |_=>none
  |_::_=>none
theorem c3w {aS9 xs}(h:b1t aS9=some xs):∃s,aS9=[.string s]/\s.size<4294967281/\(∀(j:Nat) b,s.data.toList[j]?=some b->b.toNat<128)/\xs=(Lib.fields s.data.toList).map λl=>Value.string ⟨l.toArray⟩:=by
 unfold b1t at h;split at h;cases h;split at h;split at h;rename_i s;cases hb:J2 (λb=>Nat.blt b.toNat 128) s.data.toList&&Nat.blt (x8 s.data.toList) 4294967281 with|false=>rw[hb]at h;cases h|true=>rw[hb]at h;cases h;simp only[wK]at hb;refine⟨s,rfl,?_,λj b hj=>?_,?_⟩;have:=hb.2;rw[F9]at this;have:s.data.toList.length<4294967281:=zn;simp_all;have:=(M4 _ _).1 hb.1 b (vP hj);simp_all;rw[a0R,c7w];rfl
 cases h;cases h
end Go.V
end
section
namespace Go.V
open Go.RowKit (Below)
theorem Trie.bound {α}(t:Trie α):∃c,∀i,c<=i->t.get i=none:=by induction t with|leaf=>simp_all[Trie.get_leaf]|node v l r ihl ihr=>obtain⟨a,ha⟩:=ihl;obtain⟨b,hb⟩:=ihr;refine⟨2*a+2*b+3,λi hi=>?_⟩;obtain⟨k,rfl⟩:∃k,i=k+1:=⟨i-1,zy⟩;rw[Trie.get_node_succ];grind
def b3Z (a d c:Nat):Nat->Prop:=λi=>i<c/\¬(a<=i/\i<d)
theorem b4x {P T vs}(hT:TabOk P T)(hM:P.follows .mixedOrders=true){ext}(hE:a2B P T vs ext){N}{sh}(hs:a7T P T ext N sh){f}{fn}{c}(hPf:P.funcs[f]?=some fn)(hnum:(fn.name== "runtime.NumGoroutine")=false)(hb:fn.body=some c){g}(hFr:∀aS9,Fr (g aS9))(h:∀aS9 s v s1,g aS9 s=some (v,s1)->∀c',s.c<=c'->s1.c<=c'->(∀i,c'<=i->s.h.get i=none)->∃n v2 s2 m,o8 sh n f aS9 ⟨c',s.h,s.r,s.w⟩=some (.ret v2,s2)/\View (b3Z s.c s1.c c') m s.h s1.h s2.h/\VRen (b3Z s.c s1.c c') m v v2/\∀i,s1.c<=i->i<c'->s2.h.get i=s.h.get i):J9 P T vs f g:=by
 refine⟨hFr,?_⟩;intro B0 w0 hL hB aS9 s v s1 w K as' hg S hG F has;have hE':=hE B0 w0 hL hB;obtain⟨c0,hc0⟩:=Trie.bound s.h;obtain⟨dr,dw,_,_,hle1,_,hdw,_,hkeep,_⟩:=hFr aS9 s v s1 hg;obtain⟨n,v2,s2,m,hrun,hV,hv,hfor⟩:=h aS9 s v s1 hg (c0+s.c+s1.c) zy zy (λi hi=>hc0 i zy);generalize hc':c0+s.c+s1.c=c' at hrun hV hv hfor;have hbig:∀i,c'<=i->s.h.get i=none:=λi hi=>hc0 i zy;refine Or.inr ⟨V4 hPf hnum hb,?_⟩;rcases b0S hT hM hE' hs n f aS9 ⟨c',s.h,s.r,s.w⟩ (.ret v2) s2 w K as' hrun S hG (λi hi _=>hbig i hi) has with⟨v1,v',w',K',_,q1,_⟩|⟨_,q⟩;rw[V4 hPf hnum hb]at q1;cases q1;refine q.mono λe w' hq=>?_;obtain⟨v',K2,e1,st,r⟩:=hq;have hn:∀b x,m b=some x->¬b3Z s.c s1.c c' b:=λb x e=>(hV.new b x.1 x.2 e).1;have hob:∀b o,s.h.get b=some o->b3Z s.c s1.c c' b:=λb o ho=>by refine⟨?_,λhx=>?_⟩;grind;rw[F b hx.1 hx.2]at ho;cases ho
 refine⟨v',KR (b3Z s.c s1.c c') m K2,e1,⟨λb g' l hk=>?_,λi g' hi=>?_,e1G hV S st.le hob st.sim⟩,VR.ren hn hv r⟩;obtain⟨o,ho⟩:=S.dom2 b g' l hk;rw[a6f (hob b o ho)];exact st.le b g' l hk;by_cases hlt:i<c';rw[a6f ⟨hlt,zy⟩];exact c8j S st.sim st.le (hfor i hi hlt) g';have hsn:s.h.get i=none:=hbig i zy;rw[S.none hsn g'];cases hk:KR (b3Z s.c s1.c c') m K2 i g' with|none=>rfl|some l=>rcases b6w hk with⟨hb',_⟩|⟨_,_,b2,g2,hm,_⟩;exact absurd hb'.1 hlt;obtain⟨_,_,cs,ds,e2,_⟩:=hV.new i b2 g2 hm;have:s1.h.get i=s.h.get i:=hkeep i (λhx=>by have:=hdw i hx;omega);rw[this,hsn]at e2;cases e2
end Go.V
end
section
noncomputable section
namespace Go.V
def upd (h:Trie VObj)(i:Nat)(o:VObj):Trie VObj:=Trie.put (some o) (i+1) h i
theorem c5e (h i o j):(upd h i o).get j=if j=i then some o else h.get j:=Trie.get_put _ _ _ _ (wE _) _
theorem b2D {h i o j}(e:j=i):(upd h i o).get j=some o:=by rw[c5e,vH e]
theorem d9 {h i o j}(e:j≠i):(upd h i o).get j=h.get j:=by rw[c5e,vN e]
theorem o7 (h i o):(upd h i o).get i=some o:=b2D rfl
section
variable {α β:Type}(c:Nat)(h:Trie VObj)(r w:List Nat)
theorem e8T (m:M α)(f:α->M β):M.bind m f ⟨c,h,r,w⟩=match m ⟨c,h,r,w⟩with|none=>none|some x=>f x.1 x.2:=wJ rfl rfl
theorem e8m (a:α):M.pure a ⟨c,h,r,w⟩=some (a,⟨c,h,r,w⟩):=wJ rfl rfl
theorem b3I (i:Nat):rd i ⟨c,h,r,w⟩=match Nat.blt i c with
 |true=>match h.get i with|some o=>some (o,⟨c,h,i::r,w⟩)|none=>none
 |false=>none:=wJ rfl rfl
theorem b2N (i:Nat)(o:VObj):wr i o ⟨c,h,r,w⟩=match Nat.blt i c with
 |true=>match h.get i with|some _=>some ((),⟨c,upd h i o,r,i::w⟩)|none=>none
 |false=>none:=by unfold wr;cases Nat.blt i c with|false=>rfl|true=>cases h.get i with|none=>rfl|some _=>simp only;rw[Trie.putK_eq];rfl
theorem c4N (o):new o ⟨c,h,r,w⟩=some (c,⟨c+1,upd h c o,r,c::w⟩):=by rw[b2R];rfl
theorem c2S (m:M α):M.foot m ⟨c,h,r,w⟩=match m ⟨c,h,[],[]⟩with|none=>none|some x=>some ((x.1,(x.2.r,x.2.w)),⟨x.2.c,x.2.h,D7 x.2.r r,D7 x.2.w w⟩):=wJ rfl rfl
end
theorem M9 {α}(a:α):M.foot (M.pure a)=M.pure (a,([],[])):=wJ rfl rfl
theorem E8 {α β}(a)(f:α->M β):M.obind (some a) f=f a:=wJ rfl rfl
theorem P8 {α}(m:M α):M.guard true m=m:=wJ rfl rfl
theorem b3O {α}(a:α):M.lift (some a)=M.pure a:=wJ rfl rfl
theorem a4C {α}(l:List α):D7 [] l=l:=wJ rfl rfl
theorem a4U {α}(x:α)(l m):D7 (x::l) m=x::D7 l m:=wJ rfl rfl
theorem a5A {α}(cs cur ro)(k:List (Value×Nat)->Nat->Bool->M α):a7o (.cells cs cur ro) k=k cs cur ro:=wJ rfl rfl
theorem a4k {α}(a)(k:Addr->M α):a0G (.pointer (some a)) k=k a:=wJ rfl rfl
theorem I7 {a b}(h:a<b):Nat.blt a b=true:=zn
theorem a1l {a b:Nat}(h:a<=b):Nat.ble a b=true:=uG h
theorem X9 {a b:Nat}(h:a≠b):Nat.beq a b=false:=by cases q:Nat.beq a b<;>simp_all
theorem R5 (a:Nat):Nat.beq a a=true:=zq
theorem a7m (a:Nat):Nat.ble 0 a=true:=wJ rfl rfl
theorem V9 (g cs):y8 g cs 0=some []:=by cases cs<;>rfl
theorem a1z (g:Nat)(v:Value)(st:Nat)(cs:List (Value×Nat))(n:Nat):y8 g ((v,st)::cs) (n+1)=match Nat.ble st g with
 |true=>match y8 g cs n with|some vs=>some (v::vs)|none=>none
 |false=>none:=wJ rfl rfl
theorem a0i {α}(l:List α):H9 l 0=l:=by cases l<;>rfl
theorem a7y {α}(x:α)(l n):H9 (x::l) (n+1)=H9 l n:=wJ rfl rfl
theorem c4c {α}(l:List α):a0x l 0=[]:=by cases l<;>rfl
theorem b7N {α}(x:α)(l n):a0x (x::l) (n+1)=x::a0x l n:=wJ rfl rfl
theorem a4x {α β}(f:α->β):U0 f []=[]:=wJ rfl rfl
theorem a3B {α β}(f:α->β)(x l):U0 f (x::l)=f x::U0 f l:=wJ rfl rfl
theorem a2a {α}:x8 ([]:List α)=0:=wJ rfl rfl
theorem X8 {α}(x:α)(l):x8 (x::l)=x8 l+1:=wJ rfl rfl
theorem a7l {α}(f:α->Bool):J2 f []=true:=wJ rfl rfl
theorem P7 {α}(x:α)(l):a0l (x::l) 0=some x:=wJ rfl rfl
theorem P9 {α}(x:α)(l n):a0l (x::l) (n+1)=a0l l n:=wJ rfl rfl
theorem a2x (g cs):a2W g [] cs=cs:=wJ rfl rfl
theorem a2f (g v vs c cs):a2W g (v::vs) (c::cs)=(v,g)::a2W g vs cs:=wJ rfl rfl
theorem a4n (g vs c cs):a2b g vs (c::cs) 0=some (a2W g vs (c::cs)):=wJ rfl rfl
theorem b1T (g:Nat)(vs:List Value)(c:Value×Nat)(cs:List (Value×Nat))(n:Nat):a2b g vs (c::cs) (n+1)=match a2b g vs cs n with|some cs'=>some (c::cs')|none=>none:=wJ rfl rfl
def l9 {α:Type}(r:Option (α×S))(Q:α->S->Prop):Prop:=∃a s,r=some (a,s)/\Q a s
theorem l9.mono {α}{r:Option (α×S)}{Q R}(h:l9 r Q)(k:∀a s,Q a s->R a s):l9 r R:=let⟨a,s,e,q⟩:=h;⟨a,s,e,k a s q⟩
theorem l9.pure {α}{a:α}{s Q}(h:Q a s):l9 (M.pure a s) Q:=⟨a,s,rfl,h⟩
theorem l9.some {α}{a:α}{s Q}(h:Q a s):l9 (Option.some (a,s)) Q:=⟨a,s,rfl,h⟩
theorem l9.bind {α β m}{f:α->M β}{s P Q}(h:l9 (m s) P)(k:∀a s',P a s'->l9 (f a s') Q):l9 (M.bind m f s) Q:=by obtain⟨a,s',e,p⟩:=h;show l9 (match m s with|none=>none|Option.some x=>f x.1 x.2) Q;rw[e];grind
abbrev a1Q:=List Nat×List Nat
section
variable (p:Program)(T:Tab)
def c4r (v:Value)(vs:List Value)(k:Nat->List Value->M Value):M Value:=match v with
 |.func fn first captured=>match fn with|.func g=>k g (D7 first.toList (D7 vs captured.toList))|_=>M.fail
 |_=>M.fail
def b2x (call:Nat->List Value->M Value)(ops:List Oper)(fr:List Value)(o:Oper):M (Value×a1Q):=bcase (a1U ops fr o) (M.foot (Z0 p T call fr o.op)) (M.pure (undef,([],[])))
def a3e {β:Type}(call:Nat->List Value->M Value)(ops os:List Oper):List Value->List a1Q->(List Value->List a1Q->M β)->M β:=List.rec (motive:=λ_=>List Value->List a1Q->(List Value->List a1Q->M β)->M β) (λfr acc k=>k fr acc) (λo _ ih fr acc k=>M.bind (b2x p T call ops fr o) λx=>ih (Q6 fr o x.1) (D7 acc [x.2]) k) os
theorem d2G {β}(call ops):∀(os) (fr) (acc) (k:List Value->List a1Q->M β),M.bind (a2s p T call ops os fr) (λy=>k y.1 (acc++y.2))=a3e p T call ops os fr acc k:=by
 intro os;induction os with
  |nil=>intro fr acc k;show M.bind (M.pure (fr,[])) _=k fr acc;rw[V.e7v,wH]|cons o os ih=>
   intro fr acc k;show M.bind (match a1U ops fr o with|true=>M.bind (M.foot (Z0 p T call fr o.op)) λx=>a7Y x.1 λv=>M.bind (a2s p T call ops os (Q6 fr o v)) λy=>M.pure (y.1,x.2::y.2)|false=>M.bind (a2s p T call ops os (Q6 fr o undef)) λy=>M.pure (y.1,([],[])::y.2)) _=M.bind (b2x p T call ops fr o) λx=>a3e p T call ops os (Q6 fr o x.1) (D7 acc [x.2]) k;have key:∀(v:Value) (F:a1Q),M.bind (M.bind (a2s p T call ops os (Q6 fr o v)) λy=>M.pure (y.1,F::y.2)) (λy=>k y.1 (acc++y.2))=a3e p T call ops os (Q6 fr o v) (D7 acc [F]) k:=by grind[a1W,D9,V.e7v]
   grind[b2x,A9,a1W,a8y,y9,V.e7v]
theorem d0Z (call ops n U vs W):b5H p T call ops n U vs W=a3e p T (a1P call) ops ops (L9 U vs (a0m n)) [] λfr F=>M.guard (a2V ops (a4H ops F) [] [] 0) (M.pure (.normal,Q7 fr W)):=by rw[<-d2G];rfl
end
def b5S (ops:List Oper)(pj:List Nat)(j:Nat)(y:Oper)(xs:List Oper):Nat->Option (List (Nat×Nat)):=List.rec (motive:=λ_=>Nat->Option (List (Nat×Nat))) (λ_=>some []) (λx _ ih i=>match a2M i pj with
 |true=>ih (i+1)|false=>match a0e (a2D x) (a3o ops y)&&a0e (a2D x) (a2D y)&&a0e (a2D y) (a3o ops x)with
  |true=>match ih (i+1)with|some L=>some ((i,j)::L)|none=>none
  |false=>none) xs
def b6o (ops ys:List Oper):List Oper->List (List Nat)->Nat->Option (List (Nat×Nat)):=List.rec (motive:=λ_=>List Oper->List (List Nat)->Nat->Option (List (Nat×Nat))) (λ_ _ _=>some []) (λy _ ih xs ps n=>match a7F n y.after.toList with
 |true=>match b5S ops (a4J (a6a ps) y.after.toList) n y xs 0 with
  |some L=>match ih (D7 xs [y]) (D7 ps [a4J (a6a ps) y.after.toList]) (n+1)with|some L'=>some (D7 L L')|none=>none
  |none=>none
 |false=>none) ys
def a8a (x y:a1Q):Bool:=a0e x.2 y.1&&a0e x.2 y.2&&a0e y.2 x.1
def a1A (L:List (Nat×Nat))(F:List a1Q):Bool:=J2 (λij=>match a0l F ij.1 with
 |some x=>match a0l F ij.2 with|some y=>a8a x y|none=>false
 |none=>false) L
theorem d1p {ops pj j}{y:Oper×a1Q}{F}(hy:F[j]?=some y.2):∀(xs:List (Oper×a1Q)) (i) (L),b5S ops pj j y.1 (xs.map (·.1)) i=some L->(∀(k) (x),xs[k]?=some x->F[i+k]?=some x.2)->a7H ops pj y xs i=a1A L F:=by
 intro xs;induction xs with
  |nil=>intro i L h _;cases h;rfl|cons x xs ih=>
   intro i L h hF;have h':(match a2M i pj with
    |true=>b5S ops pj j y.1 (xs.map (·.1)) (i+1)|false=>match a0e (a2D x.1) (a3o ops y.1)&&a0e (a2D x.1) (a2D y.1)&&a0e (a2D y.1) (a3o ops x.1)with
     |true=>match b5S ops pj j y.1 (xs.map (·.1)) (i+1)with|some L=>some ((i,j)::L)|none=>none
     |false=>none)=some L:=h;show(match a2M i pj||free2 ops x y with|true=>a7H ops pj y xs (i+1)|false=>false)=a1A L F;have hF':∀(k:Nat) (x:Oper×a1Q),xs[k]?=some x->F[i+1+k]?=some x.2:=λk z hz=>by have:=hF (k+1) z zo;rw[show i+1+k=i+(k+1) by omega];exact this
   cases hm:a2M i pj with
    |true=>rw[hm]at h';rw[uY];grind|false=>
     rw[hm]at h';simp only at h';split at h';rename_i hst;split at h';rename_i L' hL';cases h';have hx:=hF 0 x rfl;rw[vB]at hx;have e1:a1A ((i,j)::L') F=(a8a x.2 y.2&&a1A L' F):=by grind[a1A,U1,a2J]
     have e2:free2 ops x y=a8a x.2 y.2:=by simp_all[free2,a8a]
     rw[e1,e2,vJ,<-ih (i+1) L' hL' hF'];cases a8a x.2 y.2<;>rfl;cases h';cases h'
theorem d0P (L L' F):a1A (D7 L L') F=(a1A L F&&a1A L' F):=by grind[a1A,D9,c4S]
theorem d5O {ops F}:∀(ys xs:List (Oper×a1Q)) (ps) (n) (L),xs.length=n->(∀(k:Nat) (x),(xs++ys)[k]?=some x->F[k]?=some x.2)->b6o ops (ys.map (·.1)) (xs.map (·.1)) ps n=some L->a2V ops ys xs ps n=a1A L F:=by
 intro ys;induction ys with
  |nil=>intro xs ps n L _ _ h;cases h;rfl|cons y ys ih=>
   intro xs ps n L hn hF h;have h':(match a7F n y.1.after.toList with
    |true=>match b5S ops (a4J (a6a ps) y.1.after.toList) n y.1 (xs.map (·.1)) 0 with
     |some L=>match b6o ops (ys.map (·.1)) (D7 (xs.map (·.1)) [y.1]) (D7 ps [a4J (a6a ps) y.1.after.toList]) (n+1)with|some L'=>some (D7 L L')|none=>none
     |none=>none
    |false=>none)=some L:=h;show(match a7F n y.1.after.toList&&a7H ops (a4J (a6a ps) y.1.after.toList) y xs 0 with|true=>a2V ops ys (D7 xs [y]) (D7 ps [a4J (a6a ps) y.1.after.toList]) (n+1)|false=>false)=_;split at h';rename_i he;split at h';rename_i L1 h1;split at h';rename_i L2 h2;cases h';have hy:F[n]?=some y.2:=hF n y (by rw[vG zy,hn];simp);have hp:=d1p hy xs 0 L1 h1 (λk x hx=>by rw[vV];grind);rw[he,hp,d0P,<-ih (D7 xs [y]) (D7 ps [a4J (a6a ps) y.1.after.toList]) (n+1) L2 (by rw[D9];simp[hn]) (λk x hx=>hF k x (by rw[D9]at hx;grind)) (by rw[D9 xs,ul];rw[D9 (xs.map _)]at h2;exact h2),uL];cases a1A L1 F<;>rfl;cases h';cases h';cases h'
theorem c9N {α β}:∀(l:List α) (m:List β),x8 m=x8 l->(a4H l m).map (·.1)=l/\(∀(k:Nat) x,(a4H l m)[k]?=some x->m[k]?=some x.2):=by intro l;induction l with|nil=>intro m _;exact⟨rfl,λk x h=>by simp[a4H]at h⟩|cons a l ih=>intro m hm;cases m with|nil=>simp[F9]at hm|cons b m=>obtain⟨h1,h2⟩:=ih m (by grind[F9]);refine⟨by simp_all[a4H],λk x hx=>?_⟩;cases k with|zero=>have:some (a,b)=some x:=hx;grind|succ k=>exact h2 k x hx
theorem d6V {ops L}(h:b6o ops ops [] [] 0=some L){F:List a1Q}(hl:x8 F=x8 ops):a2V ops (a4H ops F) [] [] 0=a1A L F:=by obtain⟨h1,h2⟩:=c9N ops F hl;exact d5O (a4H ops F) [] [] 0 L rfl (λk x hx=>h2 k x hx) (by rw[h1];exact h)
end Go.V
end
section
noncomputable section
namespace Go.V
def vO (fr:List Value):Operand->Value|.tmp t=>C9 fr t|.const v=>v|.global g=>.pointer (some ⟨g,0,some 0⟩)|.func f=>.func (.func f) #[] #[]
def vL (fr:List Value)(os:List Operand):List Value:=U0 (vO fr) os
section
variable (T:Tab)
def okO:Operand->Bool|.const v=>K9 3 v|.global g=>Nat.blt g T.ng|_=>true
def okL (os:List Operand):Bool:=J2 (okO T) os
def a6S (t:TypeId):Option Nat:=(T.types.get t).map (·.size)
def d0f (t:TypeId):Option Nat:=match T.types.get t with
 |some i=>match Nat.beq i.size 0 with|true=>none|false=>some i.size
 |none=>none
def a8W (t:TypeId):Option (Option Nat):=match T.types.get t with
 |some i=>match b0x i.und with
  |true=>match Nat.beq i.size 0 with|true=>none|false=>some (some i.size)
  |false=>some none
 |none=>none
def c9C (t:TypeId):Option (List Value):=match T.types.get t with
 |some i=>match K9 8 i.zero&& !(a2C i.zero.cells.toList)with|true=>some i.zero.cells.toList|false=>none
 |none=>none
def c2v (t:TypeId)(f:Nat):Option (Nat×TypeId):=match T.types.get t with
 |some i=>match i.und with
  |.struct fs=>match a0l fs.toList f with|some fd=>some (fd.offset,fd.type)|none=>none
  |_=>none
 |none=>none
def d5n (t:TypeId)(f:Nat):Option Nat:=match c2v T t f with
 |some x=>match d0f T x.2 with|some _=>some x.1|none=>none
 |none=>none
def b6z (t:TypeId)(f:Nat):Option (Nat×Option Nat):=match c2v T t f with
 |some x=>match T.types.get x.2 with
  |some i=>match b0x i.und with|true=>some (x.1,some i.size)|false=>some (x.1,none)
  |none=>none
 |none=>none
def b7Y (t:TypeId):Option Nat:=match T.types.get t with
 |some i=>match i.und with|.slice e=>a6S T e|_=>none
 |none=>none
def e2B (t:TypeId):Option (Nat×Nat):=match T.types.get t with
 |some i=>match i.und with
  |.array n e=>match a6S T e with|some s=>some (s,n)|none=>none
  |_=>none
 |none=>none
def a7z (t:TypeId):Bool:=match T.types.get t with
 |some i=>match i.und with|.string=>true|_=>false
 |none=>false
def c6p (t:TypeId):Option IntKind:=match T.types.get t with
 |some i=>match i.und with|.int k=>some k|_=>none
 |none=>none
def d9k (t:TypeId):Bool:=(T.types.get t).isSome
def c3X (t:TypeId):Bool:=match T.types.get t with|some i=>!(c0U i.und)|none=>false
def d4m (t:TypeId):Bool:=match T.types.get t with|some i=>c2j i.und|none=>false
def a5r (place:Nat->Option (Nat×Nat))(qs:List (Nat×Operand)):Option (List (Nat×Nat)):=List.rec (motive:=λ_=>Option (List (Nat×Nat))) (some []) (λq _ ih=>match place q.1 with|none=>none|some os=>match ih with|none=>none|some l=>some (os::l)) qs
def c4y (t:TypeId)(ps:List (Nat×Operand)):Option (List (Nat×Nat)×List Value):=match T.types.get t with
 |some i=>match K9 8 i.zero with
  |true=>match i.und with
   |.struct fields=>match J2 (b9x T) fields.toList with|true=>(a5r (a5I T fields.toList) ps).map λl=>(l,i.zero.cells.toList)|false=>none
   |.array _ elem=>match a6S T elem with|some n=>(a5r (a1Z n) ps).map λl=>(l,i.zero.cells.toList)|none=>none
   |_=>none
  |false=>none
 |none=>none
def b8r (t:TypeId)(len:Nat)(ps:List (Nat×Operand)):Option (Nat×List (Nat×Nat)×List Value):=match T.types.get t with
 |some i=>match i.und with
  |.slice elem=>match T.types.get elem with
   |some e=>match Nat.beq (x8 e.zero.cells.toList) e.size&& !(Nat.beq e.size 0)&&K9 8 e.zero&&Nat.ble (len*e.size) 16777216 with|true=>(a5r (a1Z e.size) ps).map λl=>(e.size,l,a5N e.zero.cells.toList len)|false=>none
   |none=>none
  |_=>none
 |none=>none
def d4T (tys:List TypeId):Option TypeId:=match tys with
 |[st,xt]=>match T.types.get st with
  |some i=>match i.und with
   |.slice e=>match T.types.get xt with
    |some d=>match T.types.get e with
     |some te=>match !b3q d.und&& !(Nat.beq te.size 0)with|true=>some e|false=>none
     |none=>none
    |none=>none
   |_=>none
  |none=>none
 |_=>none
def a8s (t:TypeId):TI:=match T.types.get t with|some i=>i|none=>⟨.bool,0,0,undef⟩
end
section
variable {p:Program}{T:Tab}{fr:List Value}
theorem a5u {x}(h:okO T x=true):X7 T fr x=some (vO fr x):=by cases x with|const v=>have h:K9 3 v=true:=h;unfold X7;simp only[h];rfl|global g=>have h:Nat.blt g T.ng=true:=h;unfold X7;simp only[h];rfl|_=>rfl
theorem b5u {os}(h:okL T os=true):a0T T fr os=some (vL fr os):=by induction os with|nil=>rfl|cons o os ih=>unfold okL at h;rw[U1,wK]at h;show(match X7 T fr o with|none=>none|some v=>match a0T T fr os with|none=>none|some vs=>some (v::vs))=_;rw[a5u h.1,ih h.2];rfl
theorem a0w {x}(h:okO T x=true)(k):ev T fr x k=k (vO fr x):=by unfold ev;rw[a5u h];rfl
theorem a4j {x}(h:okL T x=true)(k):evs T fr x k=k (vL fr x):=by unfold evs;rw[b5u h];rfl
theorem a0I {α}{t:TypeId}{i}(h:T.types.get t=some i)(k:TI->M α):ti T t k=k i:=by unfold ti;rw[h];rfl
theorem d9V {c a b}(h:okL T [c,a,b]=true):O7 p T fr (.pick c a b)=a4t (vO fr c) (vO fr a) (vO fr b):=by simp only[okL,U1,wK]at h;show b0z T fr c a b=_;unfold b0z;rw[a0w h.1,a0w h.2.1,a0w h.2.2.1];rfl
theorem d6X {t zs}(h:c9C T t=some zs):O7 p T fr (.alloc t)=d3D zs:=by show b4m T t=_;unfold c9C at h;cases e:T.types.get t with|none=>rw[e]at h;cases h|some i=>rw[e]at h;simp only at h;split at h;rename_i q;cases h;unfold b4m;rw[a0I e,q];rfl;cases h
theorem e4s {t x}(h:okO T x=true):O7 p T fr (.box t x)=b3t (vO fr x):=by show b2z T fr x=_;unfold b2z;rw[a0w h];rfl
theorem b7x {place}:∀{ps} {os},(a5r place ps=some os)->∀(vs cs),a7V place ps vs cs=a6X os vs cs:=by intro ps;induction ps with|nil=>intro os h vs cs;cases h;rfl|cons q ps ih=>intro os h vs cs;have h:(match place q.1 with|none=>none|some os=>match a5r place ps with|none=>none|some l=>some (os::l))=some os:=h;cases e:place q.1 with|none=>rw[e]at h;cases h|some o=>rw[e]at h;cases e2:a5r place ps with|none=>rw[e2]at h;cases h|some l=>rw[e2]at h;cases h;cases vs with|nil=>rfl|cons v vs=>show(match place q.1 with|none=>none|some os=>match Nat.beq (x8 v.cells.toList) os.2&&Nat.ble (os.1+os.2) (x8 cs)with|true=>a7V place ps vs (a2Y v.cells.toList cs os.1)|false=>none)=_;rw[e];simp only[ih e2];rfl
theorem d7L {t ps os zs}(h:c4y T t ps.toList=some (os,zs))(ho:okL T (U0 (·.2) ps.toList)=true):O7 p T fr (.build t ps)=c8Y os (vL fr (U0 (·.2) ps.toList)) zs:=by
 show a8B T fr t ps=_;unfold a8B;rw[a4j ho];unfold c4y at h;cases e:T.types.get t with
  |none=>rw[e]at h;cases h|some i=>
   rw[e]at h;rw[a0I e];simp only at h⊢;split at h;rename_i q;rw[q];show(match i.und with|.struct fields=>_|.array _ elem=>_|_=>M.fail)=_;split at h;rename_i fields qu;split at h;rename_i qa;rw[qa];cases e2:a5r (a5I T fields.toList) ps.toList with|none=>rw[e2]at h;cases h|some l=>rw[e2]at h;cases h;show M.obind (a7V _ _ _ _) _=_;rw[b7x e2];rfl
   cases h;rename_i n elem qu;cases e3:T.types.get elem with|none=>grind[a6S]|some te=>rw[a0I e3];simp only[a6S,e3,Option.map]at h;cases e2:a5r (a1Z te.size) ps.toList with|none=>rw[e2]at h;cases h|some l=>rw[e2]at h;cases h;rw[b7x e2];rfl
   cases h;cases h
theorem d0c {t len ps n os zs}(h:b8r T t len ps.toList=some (n,os,zs))(ho:okL T (U0 (·.2) ps.toList)=true):O7 p T fr (.buildSlice t len ps)=b5B n len os (vL fr (U0 (·.2) ps.toList)) zs:=by
 show a3O T fr t len ps=_;unfold a3O;rw[a4j ho];unfold b8r at h;cases e:T.types.get t with
  |none=>rw[e]at h;cases h|some i=>
   rw[e]at h;rw[a0I e];simp only at h⊢;split at h;rename_i elem qu;rw[qu];simp only;cases e3:T.types.get elem with
    |none=>rw[e3]at h;cases h|some te=>
     rw[e3]at h;rw[a0I e3];simp only at h;split at h;rename_i qa;rw[qa];cases e2:a5r (a1Z te.size) ps.toList with|none=>rw[e2]at h;cases h|some l=>rw[e2]at h;cases h;show M.obind (a7V _ _ _ _) _=_;rw[b7x e2];rfl
     cases h
   cases h
theorem d6n {t x}(h:a8W T t=some none)(ho:okO T x=true):O7 p T fr (.load t x)=a9j (vO fr x):=by show a7S T fr t x=_;grind[a7S,a0w,a8W,a9j,a4K,a0I]
theorem d5w {t x n}(h:a8W T t=some (some n))(ho:okO T x=true):O7 p T fr (.load t x)=b3f n (vO fr x):=by show a7S T fr t x=_;unfold a7S;rw[a0w ho];unfold a8W at h;cases e:T.types.get t with|none=>rw[e]at h;cases h|some i=>rw[e]at h;simp only at h;split at h;rename_i q;split at h;cases h;rename_i q2;cases h;unfold b3f;congr 1;funext a;unfold a4K;rw[a0I e,q,q2];rfl;cases h
theorem d6R {t x y n}(h:a6S T t=some n)(ho:okL T [x,y]=true):O7 p T fr (.store t x y)=b6A n (vO fr x) (vO fr y):=by simp only[okL,U1,wK]at ho;show a8z T fr t x y=_;unfold a8z;rw[a0w ho.1,a0w ho.2.1];unfold a6S at h;cases e:T.types.get t<;>first|rfl|grind[b6A,b6C,a0I]
theorem e3J {x}(ho:okO T x=true):O7 p T fr (.nilCheck x)=e0u (vO fr x):=by show a5c T fr x=_;unfold a5c;rw[a0w ho];rfl
theorem e4c {op t t' x y}(ho:okL T [x,y]=true):O7 p T fr (.binOp op t x y t')=a0M p T op t x y (vO fr x) (vO fr y):=by simp only[okL,U1,wK]at ho;show b2t p T fr op t x y=_;unfold b2t;rw[a0w ho.1,a0w ho.2.1];rfl
theorem e8E {op t x}(ho:okO T x=true):O7 p T fr (.unOp op t x)=xUn p op (vO fr x):=by show b5q p T fr op x=_;unfold b5q;rw[a0w ho];rfl
theorem d7w {s d x k}(h:c6p T d=some k)(hs:d9k T s=true)(ho:okO T x=true):O7 p T fr (.convert s d x)=c2x k (vO fr x):=by show a4s T fr s d x=_;unfold a4s;rw[a0w ho];unfold c6p at h;unfold d9k at hs;cases e:T.types.get d with|none=>rw[e]at h;cases h|some i=>rw[e]at h;cases e2:T.types.get s with|none=>rw[e2]at hs;cases hs|some j=>simp only at h;unfold b2j;rw[a0I e2,a0I e];split at h;rename_i q;cases h;rw[q];rfl;cases h
theorem d8j {s d x}(h:c6p T d=none)(ho:okO T x=true):O7 p T fr (.convert s d x)=b2j T s d (vO fr x):=by show a4s T fr s d x=_;grind[a4s,a0w]
theorem d7f {t x}(h:c3X T t=true)(ho:okO T x=true):O7 p T fr (.makeInterface t x)=M.pure (.iface t (vO fr x)):=by show a8F T fr t x=_;unfold a8F;rw[a0w ho];unfold c3X at h;cases e:T.types.get t with|none=>rw[e]at h;cases h|some i=>rw[e]at h;rw[a0I e];simp only at h;rw[h];rfl
theorem e1Q {fn a b}(h:okL T a.toList=true)(h':okL T b.toList=true):O7 p T fr (.makeFunc fn a b)=d5j fn (vL fr a.toList) (vL fr b.toList):=by show b0r T fr fn a b=_;unfold b0r;rw[a4j h,a4j h'];rfl
theorem e0m {t}:O7 p T fr (.makeMap t none)=c7z:=rfl
theorem d8l {t x}(h:d4m T t=true)(ho:okO T x=true):O7 p T fr (.makeMap t (some x))=e5w (vO fr x):=by show b2l T fr t (some x)=_;unfold b2l;simp only;rw[a0w ho];unfold d4m at h;cases e:T.types.get t with|none=>rw[e]at h;cases h|some i=>rw[e]at h;rw[a0I e];simp only at h;rw[h];rfl
theorem e1K {t l c}(ho:okL T [l,c]=true):O7 p T fr (.makeSlice t l c)=b1V T t (vO fr l) (vO fr c):=by simp only[okL,U1,wK]at ho;show b0f T fr t l c=_;grind[b0f,a0w]
theorem c2Q {t x lo hi}(ho:okO T x=true)(h1:okL T lo.toList=true)(h2:okL T hi.toList=true):O7 p T fr (.slice t x lo hi none)=b3x T t (vO fr x) (lo.map (vO fr)) (hi.map (vO fr)) none:=by show a8M T fr t x lo hi none=_;unfold a8M;rw[a4j h1,a4j h2];show evs T fr [] _=_;rw[a4j rfl,a0w ho];cases lo<;>cases hi<;>rfl
theorem d1v {t x lo hi}(h:a7z T t=true)(ho:okO T x=true)(h1:okL T lo.toList=true)(h2:okL T hi.toList=true):O7 p T fr (.slice t x lo hi none)=a6x (vO fr x) (lo.map (vO fr)) (hi.map (vO fr)):=by rw[c2Q ho h1 h2];unfold a7z at h;cases e:T.types.get t with|none=>rw[e]at h;cases h|some i=>rw[e]at h;unfold b3x;rw[a0I e];simp only at h;split at h;rename_i q;rw[q];rfl;cases h
theorem d1x {t x lo hi n}(h:b7Y T t=some n)(ho:okO T x=true)(h1:okL T lo.toList=true)(h2:okL T hi.toList=true):O7 p T fr (.slice t x lo hi none)=a7s n (vO fr x) (lo.map (vO fr)) (hi.map (vO fr)):=by
 rw[c2Q ho h1 h2];unfold b7Y at h;cases e:T.types.get t with
  |none=>rw[e]at h;cases h|some i=>
   rw[e]at h;unfold b3x;rw[a0I e];simp only at h;split at h;rename_i el q;rw[q];unfold a6S at h;cases e2:T.types.get el with
    |none=>rw[e2]at h;cases h|some j=>
     rw[e2]at h;cases h;unfold a7s;show(match vO fr x with
      |.slice a len es=>ti T el λe=>match a with|some a=>M.guard (Nat.beq es e.size)<|cut T a len el _ _|none=>M.guard (Nat.beq len 0)<|cutNil _ _
      |_=>M.fail)=_;cases vO fr x<;>first|rfl|grind[a0I,cut,cutN]
   cases h
theorem e9Y {t x f n}(h:d5n T t f=some n)(ho:okO T x=true):O7 p T fr (.fieldAddr t x f)=xFA n (vO fr x):=by
 show a4G T fr t x f=_;unfold a4G;rw[a0w ho];unfold d5n c2v at h;cases e:T.types.get t with
  |none=>rw[e]at h;cases h|some i=>
   rw[e]at h;unfold b2q;rw[a0I e];simp only at h;cases u:i.und with
    |struct fs=>rw[u]at h;simp only at h⊢;cases g:a0l fs.toList f with|none=>rw[g]at h;cases h|some fd=>rw[g]at h;simp only[d0f]at h;cases e2:T.types.get fd.type with|none=>rw[e2]at h;cases h|some j=>rw[e2]at h;simp only at h;cases q:Nat.beq j.size 0 with|true=>rw[q]at h;cases h|false=>rw[q]at h;cases h;unfold xFA;congr 1;funext a;show ti T fd.type _=_;rw[a0I e2,q];rfl
    |_=>rw[u]at h;cases h
theorem e8U {t x f n}(h:b6z T t f=some (n,none))(ho:okO T x=true):O7 p T fr (.field t x f)=xF1 n (vO fr x):=by
 show a6w T fr t x f=_;unfold a6w;rw[a0w ho];unfold b6z c2v at h;cases e:T.types.get t with
  |none=>rw[e]at h;cases h|some i=>
   rw[e]at h;rw[a0I e];simp only at h;cases u:i.und with
    |struct fs=>rw[u]at h;simp only at h⊢;cases g:a0l fs.toList f with|none=>rw[g]at h;cases h|some fd=>rw[g]at h;simp only at h;cases e2:T.types.get fd.type with|none=>rw[e2]at h;cases h|some j=>rw[e2]at h;simp only at h;split at h;cases h;rename_i q;cases h;unfold xF1;cases vO fr x with|agg cs=>show partV T _ _ _=_;grind[partV,a0I]|_=>rfl
    |_=>rw[u]at h;cases h
theorem e9E {t x f n m}(h:b6z T t f=some (n,some m))(ho:okO T x=true):O7 p T fr (.field t x f)=xFN n m (vO fr x):=by
 show a6w T fr t x f=_;unfold a6w;rw[a0w ho];unfold b6z c2v at h;cases e:T.types.get t with
  |none=>rw[e]at h;cases h|some i=>
   rw[e]at h;rw[a0I e];simp only at h;cases u:i.und with
    |struct fs=>
     rw[u]at h;simp only at h⊢;cases g:a0l fs.toList f with
      |none=>rw[g]at h;cases h|some fd=>
       rw[g]at h;simp only at h;cases e2:T.types.get fd.type with
        |none=>rw[e2]at h;cases h|some j=>
         rw[e2]at h;simp only at h;split at h;rename_i q;cases h;unfold xFN;cases vO fr x with|agg cs=>show partV T _ _ _=_;grind[partV,a0I]|_=>rfl
         cases h
    |_=>rw[u]at h;cases h
theorem e5h {t x i n}(h:b7Y T t=some n)(ho:okL T [x,i]=true):O7 p T fr (.indexAddr t x i)=a7i n (vO fr x) (vO fr i):=by
 simp only[okL,U1,wK]at ho;show a2R T fr t x i=_;unfold a2R;rw[a0w ho.1,a0w ho.2.1];unfold b7Y at h;cases e:T.types.get t with
  |none=>rw[e]at h;cases h|some d=>
   rw[e]at h;unfold a9N;rw[a0I e];simp only at h;cases u:d.und with
    |slice el=>rw[u]at h;simp only[a6S]at h;cases e2:T.types.get el with|none=>rw[e2]at h;cases h|some j=>rw[e2]at h;cases h;unfold a7i;congr 1;funext k;show(match vO fr x with|.slice a len es=>M.obind a λa=>ti T el λe=>M.guard (Nat.beq es e.size)<|elemAt T a k len el|_=>M.fail)=_;cases vO fr x<;>first|rfl|grind[a0I,elemAt,elemAtN]
    |_=>rw[u]at h;cases h
theorem e3F {t x i n m}(h:e2B T t=some (n,m))(ho:okL T [x,i]=true):O7 p T fr (.indexAddr t x i)=d9F n m (vO fr x) (vO fr i):=by
 simp only[okL,U1,wK]at ho;show a2R T fr t x i=_;unfold a2R;rw[a0w ho.1,a0w ho.2.1];unfold e2B at h;cases e:T.types.get t with
  |none=>rw[e]at h;cases h|some d=>
   rw[e]at h;unfold a9N;rw[a0I e];simp only at h;cases u:d.und with
    |array len el=>rw[u]at h;simp only[a6S]at h;cases e2:T.types.get el<;>first|rfl|grind[d9F,elemAt,elemAtN,a0I]
    |_=>rw[u]at h;cases h
theorem e0g {t x i}(h:a7z T t=true)(ho:okL T [x,i]=true):O7 p T fr (.index t x i)=b6V (vO fr x) (vO fr i):=by simp only[okL,U1,wK]at ho;show a8u T fr t x i=_;grind[a8u,a0w,a7z,b6V,a0I]
theorem d2J {t x i ok}(ho:okL T [x,i]=true):O7 p T fr (.lookup t x i ok)=b1E T t (vO fr x) (vO fr i) ok:=by simp only[okL,U1,wK]at ho;show a7k T fr t x i ok=_;grind[a7k,a0w]
theorem d3P {t m k x}(ho:okL T [m,k,x]=true):O7 p T fr (.mapUpdate t m k x)=c7x T t (vO fr m) (vO fr k) (vO fr x):=by simp only[okL,U1,wK]at ho;show a3L T fr t m k x=_;unfold a3L;rw[a0w ho.1,a0w ho.2.1,a0w ho.2.2.1];rfl
theorem e4U {t m k x}(ho:okL T [m,k,x]=true):O7 p T fr (.insert t m k x)=c7x T t (vO fr m) (vO fr k) (vO fr x):=d3P (p:=p) ho
theorem e4a {x i}(ho:okO T x=true):O7 p T fr (.extract x i)=e1t i (vO fr x):=by show a6n T fr x i=_;unfold a6n;rw[a0w ho];rfl
theorem d6u {t x}(h:a7z T t=true)(ho:okO T x=true):O7 p T fr (.range t x)=d7M (vO fr x):=by show a8A T fr t x=_;unfold a8A;rw[a0w ho];unfold a7z at h;cases e:T.types.get t with|none=>rw[e]at h;cases h|some d=>rw[e]at h;simp only at h;split at h;rename_i q;rw[a0I e,q];rfl;cases h
theorem d8L {x}(ho:okO T x=true):O7 p T fr (.next x true)=e6Z (vO fr x):=by show b0d T fr x true=_;unfold b0d;show ev T fr x _=_;rw[a0w ho];rfl
theorem d7P {x t}(h:a7z T t=true)(ho:okO T x=true):a0N p T fr .len #[x] #[t]=a8d (vO fr x):=by unfold a0N;rw[a4j (by show okL T [x]=true;unfold okL;rw[U1,ho];rfl)];unfold a7z at h;cases e:T.types.get t with|none=>rw[e]at h;cases h|some d=>rw[e]at h;simp only at h;split at h;rename_i q;show ti T t _=_;rw[a0I e,q];rfl;cases h
theorem e0F {x t n}(h:b7Y T t=some n)(ho:okO T x=true):a0N p T fr .len #[x] #[t]=b6c (vO fr x):=by unfold a0N;rw[a4j (by show okL T [x]=true;unfold okL;rw[U1,ho];rfl)];unfold b7Y at h;cases e:T.types.get t with|none=>rw[e]at h;cases h|some d=>rw[e]at h;simp only at h;split at h;rename_i q;show ti T t _=_;rw[a0I e,q];rfl;cases h
theorem e4n {s x a b e}(h:d4T T [a,b]=some e)(ho:okL T [s,x]=true):a0N p T fr .append #[s,x] #[a,b]=a4F (a8s T e) (vO fr s) (vO fr x):=by
 unfold a0N;rw[a4j zy];show M.guard true (appendV T _ _)=_;show ti T a (λd=>ti T b λdx=>_)=_;unfold d4T at h;simp only at h;cases e1:T.types.get a with
  |none=>rw[e1]at h;cases h|some i=>
   rw[e1]at h;simp only at h;cases u:i.und with
    |slice el=>rw[u]at h;simp only at h;cases e2:T.types.get b with|none=>rw[e2]at h;cases h|some d=>rw[e2]at h;simp only at h;cases e3:T.types.get el with|none=>rw[e3]at h;cases h|some te=>rw[e3]at h;simp only at h;split at h;rename_i q;cases h;rw[a0I e1,a0I e2,u];show ti T e _=_;rw[a0I e3,q];unfold a8s;rw[e3];rfl;cases h
    |_=>rw[u]at h;cases h
theorem e5s {a ts}(ho:okL T a.toList=true):a0N p T fr .max a ts=c2H p ts (vL fr a.toList):=by unfold a0N;rw[a4j ho];rfl
theorem e5m {a ts}(ho:okL T a.toList=true):a0N p T fr .min a ts=e8w p ts (vL fr a.toList):=by unfold a0N;rw[a4j ho];rfl
end
end Go.V
end
