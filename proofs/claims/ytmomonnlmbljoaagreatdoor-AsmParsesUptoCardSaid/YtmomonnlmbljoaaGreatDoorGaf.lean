import Derived.Test.YtmomonnlmbljoaaGreatDoorGae
set_option maxRecDepth 1000000
set_option maxHeartbeats 4000000
set_option linter.unusedVariables false
set_option linter.unusedSimpArgs false
section
namespace Go.V
open Go.RowKit (Below)
inductive VRen (c:Nat→Prop) (m:Nat→Option (Nat×Nat)):Value→Value→Prop
 | plain {v:Value}:plain v=true→VRen c m v v
 | ptrOld {b off:Nat} {g:Option Nat}:c b→VRen c m (.pointer (some ⟨b,off,g⟩)) (.pointer (some ⟨b,off,g⟩))
 | ptrNew {b b2 g2 off:Nat}:m b=some (b2,g2)→VRen c m (.pointer (some ⟨b,off,some 0⟩)) (.pointer (some ⟨b2,off,some g2⟩))
 | sliceOld {b off n e:Nat} {g:Option Nat}:c b→VRen c m (.slice (some ⟨b,off,g⟩) n e) (.slice (some ⟨b,off,g⟩) n e)
 | sliceNew {b b2 g2 off n e:Nat}:m b=some (b2,g2)→VRen c m (.slice (some ⟨b,off,some 0⟩) n e) (.slice (some ⟨b2,off,some g2⟩) n e)
 | mapOld {b:Nat}:c b→VRen c m (.map (some b)) (.map (some b))
 | agg {cs ds:Array Value}:cs.toList.length=ds.toList.length→(∀ (i:Nat) (v w:Value),cs.toList[i]?=some v→ds.toList[i]?=some w→VRen c m v w)→VRen c m (.agg cs) (.agg ds)
 | tuple {cs ds:Array Value}:cs.toList.length=ds.toList.length→(∀ (i:Nat) (v w:Value),cs.toList[i]?=some v→ds.toList[i]?=some w→VRen c m v w)→VRen c m (.tuple cs) (.tuple ds)
 | func {fn:Fn} {cs ds es fs:Array Value}:cs.toList.length=ds.toList.length→(∀ (i:Nat) (v w:Value),cs.toList[i]?=some v→ds.toList[i]?=some w→VRen c m v w) →
  es.toList.length=fs.toList.length→(∀ (i:Nat) (v w:Value),es.toList[i]?=some v→fs.toList[i]?=some w→VRen c m v w)→VRen c m (.func fn cs es) (.func fn ds fs)
 | iface {t:TypeId} {v w:Value}:VRen c m v w→VRen c m (.iface t v) (.iface t w)
open Classical in noncomputable def KR (c:Nat->Prop)(m:Nat->Option (Nat×Nat))(K:KM):KM:=λb g=>if c b then K b g else match m b with|some x=>if g=0 then K x.1 x.2 else none|none=>none
theorem a6d {c m K b}(h:c b)(g):KR c m K b g=K b g:=by unfold KR;rw[vX h]
theorem c3q {c m K b b2 g2}(h:¬c b)(hm:m b=some (b2,g2)):KR c m K b 0=K b2 g2:=by simp_all[KR]
theorem b6j {c m K b g l}(h:KR c m K b g=some l):(c b/\K b g=some l)\/(¬c b/\g=0/\∃b2 g2,m b=some (b2,g2)/\K b2 g2=some l):=by unfold KR at h;grind
section
variable {c:Nat->Prop}{m:Nat->Option (Nat×Nat)}{K:KM}(hn:∀b x,m b=some x->¬c b)
include hn
theorem VR.ren {v1 v2}(r:VRen c m v1 v2):∀{v'},VR K v' v2->VR (KR c m K) v' v1:=by
 induction r with
  |plain hp=>intro v' q;rw[q.eq_of_plain hp];exact .plain hp| @ptrOld b off g hb=>intro v' q;generalize hz:Value.pointer (some ⟨b,off,g⟩)=z at q;cases q with|plain hp=>grind[V.plain]|ptr hk hl=>cases hz;exact .ptr (by rw[a6d hb];exact hk) hl|_=>cases hz
  | @ptrNew b b2 g2 off hm=>intro v' q;generalize hz:Value.pointer (some ⟨b2,off,some g2⟩)=z at q;cases q with|plain hp=>grind[V.plain]|ptr hk hl=>cases hz;exact .ptr (by rw[c3q (hn _ _ hm) hm];exact hk) hl|_=>cases hz
  | @sliceOld b off n e g hb=>intro v' q;generalize hz:Value.slice (some ⟨b,off,g⟩) n e=z at q;cases q with|plain hp=>grind[V.plain]|slice hk h1 h2 h3 h4 h5=>cases hz;exact .slice (by rw[a6d hb];exact hk) h1 h2 h3 h4 h5|_=>cases hz
  | @sliceNew b b2 g2 off n e hm=>intro v' q;generalize hz:Value.slice (some ⟨b2,off,some g2⟩) n e=z at q;cases q with|plain hp=>grind[V.plain]|slice hk h1 h2 h3 h4 h5=>cases hz;exact .slice (by rw[c3q (hn _ _ hm) hm];exact hk) h1 h2 h3 h4 h5|_=>cases hz
  | @mapOld b hb=>intro v' q;generalize hz:Value.map (some b)=z at q;cases q with|plain hp=>grind[V.plain]|map hk=>cases hz;exact .map (by rw[a6d hb];exact hk)|_=>cases hz
  | @agg cs ds hl _ ih=>
   intro v' q;generalize hz:Value.agg ds=z at q;cases q with
    |plain hp=>grind[V.plain]|agg h1 h2=>
     cases hz;refine .agg (h1.trans hl.symm) λi a b ha hb=>?_;have hi:i<ds.toList.length:=by rw[<-hl];grind
     grind|_=>cases hz
  | @tuple cs ds hl _ ih=>
   intro v' q;generalize hz:Value.tuple ds=z at q;cases q with
    |plain hp=>grind[V.plain]|tuple h1 h2=>
     cases hz;refine .tuple (h1.trans hl.symm) λi a b ha hb=>?_;have hi:i<ds.toList.length:=by rw[<-hl];grind
     grind|_=>cases hz
  | @func fn cs ds es fs hl _ hl' _ ih ih'=>
   intro v' q;generalize hz:Value.func fn ds fs=z at q;cases q with
    |plain hp=>grind[V.plain]|func h1 h2 h3 h4=>
     cases hz;refine .func (h1.trans hl.symm) (λi a b ha hb=>?_) (h3.trans hl'.symm) λi a b ha hb=>?_;have hi:i<ds.toList.length:=by rw[<-hl];grind
     grind;grind|_=>cases hz
  |iface _ ih=>intro v' q;rename_i t v w _;generalize hz:Value.iface t w=z at q;cases q with|plain hp=>grind[V.plain]|iface h=>cases hz;exact .iface (ih h)|_=>cases hz
end
inductive ORen (c:Nat→Prop) (m:Nat→Option (Nat×Nat)):Option VObj→Option VObj→Prop
 | none:ORen c m none none
 | cells {cs ds:List (Value×Nat)} {cur:Nat} {ro:Bool}:cs.length=ds.length→(∀ (i:Nat) v w st st',cs[i]?=some (v,st)→ds[i]?=some (w,st')→st=st'∧VRen c m v w)→ORen c m (some (.cells cs cur ro)) (some (.cells ds cur ro))
 | map {es fs:List (Value×Value)}:es.length=fs.length→(∀ (i:Nat) (e f:Value×Value),es[i]?=some e→fs[i]?=some f→e.1=f.1∧VRen c m e.2 f.2)→ORen c m (some (.map es)) (some (.map fs))
 | siter {s:ByteArray} {pos:Nat}:ORen c m (some (.siter s pos)) (some (.siter s pos))
structure View (c:Nat→Prop) (m:Nat→Option (Nat×Nat)) (h0 h1 h2:Trie VObj):Prop where
 old:∀ i,c i→ORen c m (h1.get i) (h2.get i)∨(h1.get i=h0.get i∧h2.get i=h0.get i)
 new:∀ b b2 g2,m b=some (b2,g2)→¬ c b∧¬ c b2∧∃ cs ds,h1.get b=some (.cells cs 0 false)∧h2.get b2=some (.cells ds g2 false)∧cs.length=ds.length ∧
  ∀ (i:Nat) v w st st',cs[i]?=some (v,st)→ds[i]?=some (w,st')→st=0∧VRen c m v w
 dom:∀ b, ¬ c b→m b=none→h1.get b=none
 inj:∀ b b' x x',m b=some x→m b'=some x'→x.1=x'.1→b=b'
theorem c8A {B0 w0 K K2 h h2 w w'}(S:Sim B0 w0 K h w)(S2:Sim B0 w0 K2 h2 w')(hle:K.le K2){i}(e:h2.get i=h.get i)(g):K2 i g=K i g:=by
 cases q:K2 i g with
  |none=>cases q1:K i g with|none=>rfl|some l=>rw[hle _ _ _ q1]at q;cases q
  |some l=>
   have key:∀l',K i g=some l'->some l=K i g:=λl' h'=>by rw[h',<-q,hle _ _ _ h']
   obtain⟨o,ho⟩:=S2.dom2 i g l q;have ho':h.get i=some o:=by rw[<-e];exact ho
   cases o with
    |cells cs cur ro=>obtain⟨l',hl'⟩:=(S.gens i cs cur ro ho').2.1 g ((S2.gens i cs cur ro ho).1 g l q).1;simp_all|map es=>
     obtain rfl:=S2.gen0 i g l q λcs cur ro h=>by rw[ho]at h;cases h
     obtain⟨l',_,_,hl',_⟩:=S.map i es ho';simp_all|siter x pos=>
     obtain rfl:=S2.gen0 i g l q λcs cur ro h=>by rw[ho]at h;cases h
     obtain⟨l',hl',_⟩:=S.siter i x pos ho';simp_all
theorem b8z {c m K}(hK:∀b g l,K b g=some l->c b){v' v}(r:VR K v' v):VRen c m v v:=by induction r with|plain h=>exact .plain h|ptr hk _=>exact .ptrOld (hK _ _ _ hk)|slice hk _ _ _ _ _=>exact .sliceOld (hK _ _ _ hk)|map hk=>exact .mapOld (hK _ _ _ hk)|agg hl _ ih=>refine .agg rfl λi v w h h'=>?_;rw[h]at h';grind|tuple hl _ ih=>refine .tuple rfl λi v w h h'=>?_;rw[h]at h';grind|func hl _ hl' _ ih ih'=>refine .func rfl (λi v w h h'=>?_) rfl λi v w h h'=>?_;rw[h]at h';grind;grind|iface _ ih=>exact .iface ih
theorem e2p {c m h0 h1 h2 B0 w0 K0 K wS w}(V:View c m h0 h1 h2)(S0:Sim B0 w0 K0 h0 wS)(hle:K0.le K)(hO:∀b o,h0.get b=some o->c b)(S:Sim B0 w0 K h2 w):Sim B0 w0 (KR c m K) h1 w:=by
 have hn:∀b x,m b=some x->¬c b:=λb x e=>(V.new b x.1 x.2 e).1;have hK0:∀b g l,K0 b g=some l->c b:=λb g l q=>let⟨o,ho⟩:=S0.dom2 b g l q;hO b o ho;have src:∀b g l,KR c m K b g=some l->∃b2 g2,K b2 g2=some l/\((c b/\b2=b/\g2=g)\/(¬c b/\g=0/\m b=some (b2,g2))):=by intro b g l h;rcases b6j h with⟨q1,q2⟩|⟨q1,q2,b2,g2,q3,q4⟩;simp_all;simp_all
 have cellsOf:∀b cs cur ro,h1.get b=some (.cells cs cur ro)->(c b/\∃ds,h2.get b=some (.cells ds cur ro)/\cs.length=ds.length/\∀(i:Nat) v u st st',cs[i]?=some (v,st)->ds[i]?=some (u,st')->st=st'/\(VRen c m v u\/(v=u/\h0.get b=some (.cells cs cur ro)/\h2.get b=h0.get b)))\/(¬c b/\cur=0/\ro=false/\∃b2 g2 ds,m b=some (b2,g2)/\h2.get b2=some (.cells ds g2 false)/\cs.length=ds.length/\∀(i:Nat) v u st st',cs[i]?=some (v,st)->ds[i]?=some (u,st')->st=0/\VRen c m v u):=by intro b cs cur ro h;by_cases hb:c b;rcases V.old b hb with this|⟨z1,z2⟩;rw[h]at this;generalize hz:h2.get b=z at this;cases this<;>grind;simp_all;cases hm:m b with|none=>rw[V.dom b hb hm]at h;cases h|some x=>obtain⟨_,_,cs',ds,e1,e2,e3,e4⟩:=V.new b x.1 x.2 hm;rw[e1]at h;grind
 refine⟨S.size0,S.below,?_,?_,?_,?_,?_,?_,?_,?_,?_,?_,λb g l h hnc=>?_⟩;intro b g l h;obtain⟨b2,g2,q,_⟩:=src b g l h;exact S.dom' b2 g2 l q;intro b g l h;obtain⟨b2,g2,q,hor⟩:=src b g l h;rcases hor with⟨hb,rfl,rfl⟩|⟨hb,_,hm⟩;obtain⟨o,ho⟩:=S.dom2 b2 g2 l q;rcases V.old b2 hb with this|⟨z1,z2⟩;rw[ho]at this;generalize hz:h1.get b2=z at this;cases this<;>exact⟨_,rfl⟩;simp_all;obtain⟨_,_,cs,ds,e1,_⟩:=V.new b b2 g2 hm;grind;intro b g l h ho;obtain⟨b2,g2,q,_⟩:=src b g l h;exact S.own b2 g2 l q ho;intro b g l b' g' l' h h' hne ho;obtain⟨b2,g2,q,hor⟩:=src b g l h;obtain⟨b3,g3,q',hor'⟩:=src b' g' l' h';refine S.apart b2 g2 l b3 g3 l' q q' ?_ ho;rcases hor with⟨hb,rfl,rfl⟩|⟨hb,_,hm⟩<;>rcases hor' with⟨hb',rfl,rfl⟩|⟨hb',_,hm'⟩;exact hne;exactλe=>(V.new _ _ _ hm').2.1 (e▸hb);exactλe=>(V.new _ _ _ hm).2.1 (e▸hb');exactλe=>hne (V.inj _ _ _ _ hm hm' e);intro b g l g' l' h h';obtain⟨b2,g2,q,hor⟩:=src b g l h;obtain⟨b3,g3,q',hor'⟩:=src b g' l' h';have e:b3=b2:=by rcases hor with⟨hb,e1,_⟩|⟨hb,_,hm⟩<;>rcases hor' with⟨hb',e1',_⟩|⟨hb',_,hm'⟩;omega;simp_all;simp_all;simp_all
 subst e;exact S.same b3 g2 l g3 l' q q';intro b g l cs cur ro h ho hc;obtain⟨b2,g2,q,hor⟩:=src b g l h;rcases cellsOf b cs cur ro hc with⟨hb,ds,e1,_⟩|⟨hb,_,_,b3,g3,ds,hm,e1,_⟩;rcases hor with⟨_,rfl,rfl⟩|⟨hb',_,_⟩;exact S.room b2 g2 l ds cur ro q ho e1;grind;rcases hor with⟨hb',_,_⟩|⟨_,_,hm'⟩;grind;rw[hm]at hm';cases hm';exact S.room b2 g2 l ds g2 false q ho e1;intro b cs cur ro hc;rcases cellsOf b cs cur ro hc with⟨hb,ds,e1,e2,e3⟩|⟨hb,rfl,rfl,b3,g3,ds,hm,e1,e2,e3⟩;obtain⟨q1,q2,q3⟩:=S.gens b ds cur ro e1;grind[a6d,List.mem_iff_getElem?];obtain⟨q1,q2,q3⟩:=S.gens b3 ds g3 false e1;refine⟨λg l' h=>?_,λg hg=>let⟨l,r⟩:=q2 g3 (xD _);⟨l,by rw[qb.1 hg,c3q hb hm];exact r⟩,λx hx=>?_⟩;grind;grind[List.mem_iff_getElem?];intro b cs cur ro g l hc hk off v st hv hst hlo;rcases cellsOf b cs cur ro hc with⟨hb,ds,e1,e2,e3⟩|⟨hb,rfl,rfl,b3,g3,ds,hm,e1,e2,e3⟩;rw[a6d hb]at hk;have hlt:off<ds.length:=by rw[<-e2];grind
 obtain⟨f1,f2⟩:=e3 off v _ st _ hv (wz hlt);obtain⟨v',r1,r2⟩:=S.cells b ds cur ro g l e1 hk off _ _ (wz hlt) (by rw[<-f1];exact hst) hlo;rcases f2 with f2|⟨e,z1,z2⟩;grind[VR.ren];have hk0:K0 b g=some l:=by rw[<-c8A S0 S hle z2 g];exact hk
 obtain⟨v0,_,q⟩:=S0.cells b cs cur ro g l z1 hk0 off v st hv hst hlo;rw[<-e]at r2;grind[VR.ren,b8z];rcases b6j hk with⟨hb',_⟩|⟨_,rfl,b4,g4,hm',hk'⟩;grind;rw[hm]at hm';cases hm';have hlt:off<ds.length:=by rw[<-e2];grind
 obtain⟨f1,f2⟩:=e3 off v _ st _ hv (wz hlt);obtain⟨v',r1,r2⟩:=S.cells b3 ds g3 false g3 l e1 hk' off _ _ (wz hlt) ((S.gens b3 ds g3 false e1).2.2 _ (vB hlt)) hlo;grind[VR.ren];·
  intro b es hc;have hb:c b:=yL;rcases V.old b hb with this|⟨z1,z2⟩;rotate_left;rw[z1]at hc;have hc2:h2.get b=some (.map es):=by rw[z2];exact hc
  obtain⟨l,es',clock,r1,r2,r3,r4⟩:=S.map b es hc2;obtain⟨_,es0,_,_,_,_,t4⟩:=S0.map b es hc;refine⟨l,es',clock,by rw[a6d hb];exact r1,r2,r3,⟨r4.len,λi e' e he' he=>?_⟩⟩;have hlt:i<es0.toList.length:=by rw[t4.len];grind
  obtain⟨k1,k2⟩:=r4.key i e' e he' he;exact⟨k1,VR.ren hn (b8z hK0 (t4.key i _ e (wz hlt) he).2) k2⟩;rw[hc]at this;generalize hz:h2.get b=z at this;cases this with
   | @map _ fs q1 q2=>
    obtain⟨l,es',clock,r1,r2,r3,r4⟩:=S.map b fs hz;refine⟨l,es',clock,by rw[a6d hb];exact r1,r2,r3,⟨by rw[r4.len,q1],λi e' e he' he=>?_⟩⟩;have hlt:i<fs.length:=by rw[<-q1];grind
    obtain⟨k1,k2⟩:=r4.key i e' _ he' (wz hlt);grind[VR.ren]
 ·intro b s pos hc;have hb:c b:=yL;rcases V.old b hb with this|⟨z1,z2⟩;rotate_left;rw[z1,<-z2]at hc;obtain⟨l,r1,r2⟩:=S.siter b s pos hc;grind[a6d];rw[hc]at this;generalize hz:h2.get b=z at this;cases this with|siter=>obtain⟨l,r1,r2⟩:=S.siter b s pos hz;grind[a6d]
 rcases b6j h with⟨hb,q⟩|⟨_,e,_⟩;refine S.gen0 b g l q λcs cur ro e=>?_;rcases V.old b hb with this|⟨z1,z2⟩;rw[e]at this;generalize hz:h1.get b=z at this;cases this<;>grind;simp_all;exact e
end Go.V
end
noncomputable section
namespace Go.V
def Trie.items {α:Type}(t:Trie α):List (Nat×α):=Trie.rec (motive:=λ_=>List (Nat×α)) [] (λv _ _ l r=>I9 (match v with|some v=>[(0,v)]|none=>[]) (I9 (J7 (λx=>(2*x.1+1,x.2)) l) (J7 (λx=>(2*x.1+2,x.2)) r))) t
theorem Trie.mem_items {α}{t:Trie α}:∀{k} {v},t.get k=some v->(k,v)∈t.items:=by induction t with|leaf=>grind[Trie.get_leaf]|node o l r ihl ihr=>intro k v h;show(k,v)∈I9 (match o with|some v=>[(0,v)]|none=>[]) (I9 (J7 (λx=>(2*x.1+1,x.2)) l.items) (J7 (λx=>(2*x.1+2,x.2)) r.items));simp only[V7,a1z,vN,uj];cases k with|zero=>rw[Trie.get_node_zero]at h;simp_all|succ k=>right;rw[Trie.get_node_succ]at h;grind
theorem d1T {P T}(h1:T.types.items.map (λx=>(P.info? x.1).map λi=>(i.size,i.bytes,i.zero))=T.types.items.map (λx=>some (x.2.size,x.2.bytes,some x.2.zero)))(h2:T.types.items.map (λx=>P.underlying x.1)=T.types.items.map (λx=>some x.2.und))(h3:(T.types.items.all λx=>x.2.zero.cells.size==x.2.size)=true)(h4:T.funcs.items.map (λx=>(P.funcs[x.1]?,x.2.name== "runtime.NumGoroutine"))=T.funcs.items.map (λx=>(some x.2,false))):TabOk P T:=by have inj:∀{α β:Type} {f g:α->β} {l:List α},l.map f=l.map g->∀x∈l,f x=g x:=λh x hx=>zm;constructor;intro t i h;have hm:=Trie.mem_items h;have e1:=inj h1 _ hm;have e2:=inj h2 _ hm;have e3:=sS.1 h3 _ hm;dsimp only at e1 e2 e3;cases hi:P.info? t<;>grind;intro f fn h;have e:=inj h4 _ (Trie.mem_items h);grind
end Go.V
end
noncomputable section
namespace Go.V
open Go.RowKit (Below)
def b4w {β:Type}(t:Trie VObj):(Trie VObj->Option β)->Option β:=Trie.rec (motive:=λ_=>(Trie VObj->Option β)->Option β) (λq=>q .leaf) (λv _ _ ihl ihr q=>ihl λl=>ihr λr=>match v with|none=>q (.node none l r)|some o=>match o with|.cells cs cur _=>q (.node (some (.cells cs cur true)) l r)|_=>none) t
def b7a (h h':Trie VObj):Prop:=∀i,(h.get i=none/\h'.get i=none)\/∃cs cur ro,h.get i=some (.cells cs cur ro)/\h'.get i=some (.cells cs cur true)
theorem c1h {β}(t):∀(q:Trie VObj->Option β) (x),b4w t q=some x->∃t',b7a t t'/\q t'=some x:=by
 induction t with
  |leaf=>intro q x h;exact⟨.leaf,λi=>Or.inl ⟨Trie.get_leaf i,Trie.get_leaf i⟩,h⟩|node v l r ihl ihr=>
   intro q x h;have h':b4w l (λl=>b4w r λr=>match v with|none=>q (.node none l r)|some o=>match o with|.cells cs cur _=>q (.node (some (.cells cs cur true)) l r)|_=>none)=some x:=h;obtain⟨l',hl,h1⟩:=ihl _ _ h';obtain⟨r',hr,h2⟩:=ihr _ _ h1;have key:∀(v':Option VObj),((v=none/\v'=none)\/∃cs cur ro,v=some (.cells cs cur ro)/\v'=some (.cells cs cur true))->b7a (.node v l r) (.node v' l' r'):=by intro v' hv i;cases i with|zero=>rw[Trie.get_node_zero,Trie.get_node_zero];exact hv|succ k=>rw[Trie.get_node_succ,Trie.get_node_succ];by_cases hk:k%2=0;rw[vX hk,vX hk];exact hl _;rw[vg hk,vg hk];exact hr _
   grind
def c4A:M Unit:=λs=>b4w s.h λh=>some ((),⟨s.c,h,[],[]⟩)
theorem c3Y {s s' u}(h:c4A s=some (u,s')):s'.c=s.c/\b7a s.h s'.h:=by obtain⟨t',h1,h2⟩:=c1h _ _ _ h;grind
def b0e (K:KM):KM:=λb g=>(K b g).map λl=>{l with own:=false}
theorem a4v {K b g l}(h:b0e K b g=some l):∃l0,K b g=some l0/\l={l0 with own:=false}:=by unfold b0e at h;cases q:K b g<;>simp_all
theorem a9i {K b g l}(h:K b g=some l):b0e K b g=some {l with own:=false}:=by grind[b0e]
theorem VR.frz {K v' v}(r:VR K v' v):VR (b0e K) v' v:=by induction r with|plain h=>exact .plain h| @ptr b g off l hk hl=>exact VR.ptr (l:={l with own:=false}) (a9i hk) hl|slice hk h1 h2 h3 h4 h5=>refine VR.slice (a9i hk) h1 h2 h3 h4 ?_;grind| @map b l hk=>exact VR.map (l:={l with own:=false}) (a9i hk)|agg h1 _ ih=>exact .agg h1 ih|tuple h1 _ ih=>exact .tuple h1 ih|func h1 _ h3 _ ih1 ih2=>exact .func h1 ih1 h3 ih2|iface _ ih=>exact .iface ih
theorem VRL.frz {K l' l}(h:VRL K l' l):VRL (b0e K) l' l:=⟨h.len,λi v' v a b=>(h.at_ i v' v a b).frz⟩
theorem GK.frz {T K}(h:GK T K):GK T (b0e K):=λg hg=>let⟨_,e,r1,r2,r3⟩:=h g hg;⟨_,a9i e,r1,r2,r3⟩
structure KeepsR (R:Nat→Prop) (w w':World):Prop where
 size:w.heap.size≤w'.heap.size
 same:∀ k o,R k→w.heap[k]?=some o→o.isCells=true∨o.isWalk=true→w'.heap[k]?=some o
theorem c5W {B0 w0 K h h' w w'}(S:Sim B0 w0 K h w)(F:b7a h h')(Kp:KeepsR w0.R w w'):Sim w'.heap.size ⟨w',w0.R⟩ (b0e K) h' w':=by
 have hB:=wL S.base Kp.size;have hcs:∀b cs cur ro,h'.get b=some (.cells cs cur ro)->ro=true/\∃ro0,h.get b=some (.cells cs cur ro0):=by intro b cs cur ro q;rcases F b with⟨_,e⟩|⟨cs0,cur0,ro0,e1,e2⟩;rw[e]at q;cases q;simp_all
 refine⟨⟨xD _,λk hk=>S.size0.2 k (wL hB hk)⟩,tK _ _,?_,?_,?_,?_,?_,?_,?_,?_,?_,?_,λb g l q hnc=>by obtain⟨l0,q0,rfl⟩:=a4v q;refine S.gen0 b g l0 q0 λcs cur ro e=>?_;rcases F b with⟨e',_⟩|⟨cs0,cur0,ro0,e1,e2⟩;rw[e']at e;cases e;simp_all⟩;intro b g l q;obtain⟨l0,q0,rfl⟩:=a4v q;exact⟨wY (S.dom b g l0 q0) Kp.size,(S.dom' b g l0 q0).2⟩;intro b g l q;obtain⟨l0,q0,rfl⟩:=a4v q;obtain⟨o,ho⟩:=S.dom2 b g l0 q0;rcases F b with⟨e,_⟩|⟨cs0,cur0,ro0,e1,e2⟩;rw[e]at ho;cases ho;simp_all;intro b g l q ho;obtain⟨l0,q0,rfl⟩:=a4v q;cases ho;intro b g l b' g' l' q _ _ ho;obtain⟨l0,q0,rfl⟩:=a4v q;cases ho;intro b g l g' l' q q';obtain⟨l0,q0,rfl⟩:=a4v q;obtain⟨l1,q1,rfl⟩:=a4v q';exact⟨rfl,(S.same b g l0 g' l1 q0 q1).2⟩;intro b g l cs cur ro q ho;obtain⟨l0,q0,rfl⟩:=a4v q;cases ho;intro b cs cur ro q;obtain⟨rfl,ro0,q0⟩:=hcs b cs cur ro q;obtain⟨r1,r2,r3⟩:=S.gens b cs cur ro0 q0;refine⟨λg l q=>?_,λg hg=>let⟨_,r⟩:=r2 g hg;⟨_,a9i r⟩,r3⟩;obtain⟨l0,q0,rfl⟩:=a4v q;simp_all;intro b cs cur ro g l q1 q2 off v st q3 q4 q5;obtain⟨rfl,ro0,q0⟩:=hcs b cs cur ro q1;obtain⟨l0,q2',rfl⟩:=a4v q2;obtain⟨v',r1,r2⟩:=S.cells b cs cur ro0 g l0 q0 q2' off v st q3 q4 q5;refine⟨v',?_,r2.frz⟩;obtain⟨o,ho,hc⟩:∃o:Obj,w.heap[l0.blk]?=some o/\o.isCells=true:=by unfold World.cell? at r1;cases hx:w.heap[l0.blk]? with|none=>grind|some o=>cases o with|cells=>exact⟨_,rfl,rfl⟩|_=>simp[hx]at r1
 rw[<-r1];exact uK (w:=w) (by dsimp only;rw[Kp.same _ _ (S.dom' b g l0 q2').2 ho (Or.inl hc),ho]);intro b es q;rcases F b with⟨_,e⟩|⟨cs0,cur0,ro0,e1,e2⟩;rw[e]at q;cases q;simp_all;intro b x pos q;rcases F b with⟨_,e⟩|⟨cs0,cur0,ro0,e1,e2⟩;rw[e]at q;cases q;simp_all
end Go.V
end
noncomputable section
namespace Go.V
open Go.RowKit (Below)
abbrev Log:=List (Nat×List Value)
structure YPat where
 ops:Array Oper
 n:Nat
 y:Oper
 c:Call
 z:Oper
 ty:Nat
 tz:Nat
def c0e:Op->Option Nat
 |.unOp op _ x=>match op with
  |.not=>match x with|.tmp t=>some t|_=>none
  |_=>none
 |_=>none
def c0g (n:Nat):Option Nat->Bool|some m=>Nat.beq m n|none=>false
def c7n (ops:Array Oper)(tz:Nat):Option YPat:=match a0r ops.toList (F9 ops.toList-2)with|none=>none|some y=>match a0r ops.toList (F9 ops.toList-1)with|none=>none|some z=>match b1b y.op with|none=>none|some c=>match y.dst with|none=>none|some ty=>match c0g ty (c0e z.op)&&c0g tz z.dst&&y.guard.isNone&&z.guard.isNone&& !(Nat.beq ty tz)&&Nat.ble 2 (F9 ops.toList)with|true=>some ⟨ops,F9 ops.toList-2,y,c,z,ty,tz⟩|false=>none
def d3R:Code->Bool|.ret=>true|_=>false
def c8X:Code->Bool|.skip=>true|_=>false
def b0L (a b:Code):Option YPat:=match a with
 |.region _ ops draw=>match draw with
  |true=>none|false=>match b with
   |.cond x thn els=>match d3R thn&&c8X els with
    |true=>match x with|.tmp tz=>c7n ops tz|_=>none
    |false=>none
   |_=>none
 |_=>none
def b8a (T:Tab)(fr:List Value)(c:Call):Option (Nat×List Value):=match c.callee with
 |.value f=>match Y0 T fr f with
  |some v=>match v with
   |.func fn first cap=>match fn with
    |.yield l=>match first.toList with
     |[]=>match cap.toList with
      |[]=>match a0P T fr c.args.toList with|some vs=>some (l,vs)|none=>none
      |_::_=>none
     |_::_=>none
    |_=>none
   |_=>none
  |none=>none
 |_=>none
section
variable (P:Program)(T:Tab)
def b0v (call:Nat->List Value->M Value)(p:YPat)(fr:List Value)(log:Log):M (Ex×(List Value×Log)):=M.bind (a6a P T call p.ops.toList (a2i p.ops.toList p.n) fr) λfr1=>M.obind (b8a T fr1 p.c) λlv=>M.guard (M0 (M7 8) lv.2&&Nat.blt p.ty (F9 fr1)&&Nat.blt p.tz (F9 fr1))<|M.bind c4A λ_=>fList (I9 log [lv]) λlog'=>M.pure (.normal,(a4P (a4P fr1 p.ty (.bool true)) p.tz (.bool false),log'))
def b5R (call:Nat->List Value->M Value)(ih:Code->List Value->Log->M (Ex×(List Value×Log)))(c:Code)(fr:List Value)(log:Log):M (Ex×(List Value×Log)):=match c with
 |.skip=>M.pure (.normal,(fr,log))|.region _ ops draw=>M.bind (region P T call ops.toList draw fr) λr=>M.pure (r.1,(r.2,log))|.seq a b=>match b0L a b with|some p=>b0v P T call p fr log|none=>M.bind (ih a fr log) λr=>match r.1 with|.normal=>ih b r.2.1 r.2.2|.exit id=>M.pure (.exit id,r.2)|.ret=>M.pure (.ret,r.2)
 |.cond x a b=>M.obind (Y0 T fr x) λv=>match v with
  |.bool t=>match t with|true=>ih a fr log|false=>ih b fr log
  |_=>M.fail
 |.block id b=>M.bind (ih b fr log) λr=>match r.1 with
  |.normal=>M.pure (.normal,r.2)|.exit id'=>match Nat.beq id' id with|true=>M.pure (.normal,r.2)|false=>M.pure (.exit id',r.2)
  |.ret=>M.pure (.ret,r.2)
 |.loop b=>fList fr λfr=>M.bind (ih b fr log) λr=>match r.1 with|.normal=>ih (.loop b) r.2.1 r.2.2|.exit id=>M.pure (.exit id,r.2)|.ret=>M.pure (.ret,r.2)
 |.exit id=>M.pure (.exit id,(fr,log))|.ret=>M.pure (.ret,(fr,log))|_=>M.fail
def a3o (call:Nat->List Value->M Value)(n:Nat):Code->List Value->Log->M (Ex×(List Value×Log)):=Nat.rec (motive:=λ_=>Code->List Value->Log->M (Ex×(List Value×Log))) (λ_ _ _=>M.fail) (λ_ ih=>b5R P T call ih) n
end
theorem d0u {ops tz p}(h:c7n ops tz=some p):p.ops=ops/\p.tz=tz/\ops[p.n]?=some p.y/\ops[p.n+1]?=some p.z/\p.n+2=ops.size/\p.y.op=.call p.c/\p.y.guard=none/\p.z.guard=none/\p.y.dst=some p.ty/\p.z.dst=some p.tz/\(∃t,p.z.op=.unOp .not t (.tmp p.ty))/\p.ty≠p.tz:=by
 unfold c7n at h;cases hy:a0r ops.toList (F9 ops.toList-2)with
  |none=>rw[hy]at h;cases h|some y=>
   rw[hy]at h;dsimp only at h;cases hz:a0r ops.toList (F9 ops.toList-1)with
    |none=>rw[hz]at h;cases h|some z=>
     rw[hz]at h;dsimp only at h;cases hc:b1b y.op with
      |none=>rw[hc]at h;cases h|some c=>
       rw[hc]at h;dsimp only at h;cases hd:y.dst with
        |none=>rw[hd]at h;cases h|some ty=>
         rw[hd]at h;dsimp only at h;cases hb:c0g ty (c0e z.op)&&c0g tz z.dst&&y.guard.isNone&&z.guard.isNone&& !(Nat.beq ty tz)&&Nat.ble 2 (F9 ops.toList)with
          |false=>rw[hb]at h;cases h|true=>
           rw[hb]at h;cases h;simp only[wh,si]at hb;obtain⟨⟨⟨⟨⟨b1,b2⟩,b3⟩,b4⟩,b5⟩,b6⟩:=hb;rw[J2]at hy hz b6⊢;rw[a2E,a7G]at hy hz;simp only[vF]at hy hz b6⊢;have b6:2<=ops.size:=by simpa using b6
           refine⟨trivial,trivial,hy,by rw[show ops.size-2+1=ops.size-1 by omega];exact hz,zy,?_,by simpa using b3,by simpa using b4,hd,?_,?_,?_⟩;cases ho:y.op<;>rw[ho]at hc<;>first|(cases hc;rfl)|cases hc
           cases q:z.dst with|none=>rw[q]at b2;cases b2|some t=>rw[q]at b2;exact wO some (wo b2)
           cases q:c0e z.op with|none=>rw[q]at b1;cases b1|some t=>rw[q]at b1;obtain rfl:t=ty:=wo b1;unfold c0e at q;grind
           intro e;rw[e]at b5;simp at b5
theorem c6b {a b p}(h:b0L a b=some p):(∃id,a=.region id p.ops false)/\b=.cond (.tmp p.tz) .ret .skip/\p.ops[p.n]?=some p.y/\p.ops[p.n+1]?=some p.z/\p.n+2=p.ops.size/\p.y.op=.call p.c/\p.y.guard=none/\p.z.guard=none/\p.y.dst=some p.ty/\p.z.dst=some p.tz/\(∃t,p.z.op=.unOp .not t (.tmp p.ty))/\p.ty≠p.tz:=by
 cases a with
  |region id ops draw=>
   cases draw with
    |true=>cases h|false=>
     cases b with
      |cond x thn els=>
       unfold b0L at h;dsimp only at h;cases hb:d3R thn&&c8X els with
        |false=>rw[hb]at h;cases h|true=>
         rw[hb]at h;simp only[wh]at hb;have e1:thn=.ret:=by cases thn<;>first|rfl|cases hb.1
         have e2:els=.skip:=by cases els<;>first|rfl|cases hb.2
         cases x with|tmp tz=>have h:c7n ops tz=some p:=h;obtain⟨q1,q2,q3⟩:=d0u h;simp_all|_=>cases h
      |_=>cases h
  |_=>cases h
theorem c3h {T fr c l vs}(h:b8a T fr c=some (l,vs)):∃f,c.callee=.value f/\Y0 T fr f=some (.func (.yield l) #[] #[])/\a0P T fr c.args.toList=some vs:=by unfold b8a at h;split at h;rename_i f hf;split at h;rename_i v hv;split at h;rename_i fn first cap;split at h;rename_i l';split at h;rename_i hfirst;split at h;rename_i hcap;split at h;simp_all;cases h;cases h;cases h;cases h;cases h;cases h;cases h
end Go.V
end
noncomputable section
namespace Go.V
open Go.RowKit (Below)
section
variable {P:Program}{T:Tab}{B0:Nat}{w0:Base}{w:World}{K:KM}{s s':S}{a:Act}{fr:List Value}{v:Value}{m:Nat}
def b1S (s:S):Prop:=∀i,s.c<=i->s.h.get i=none
theorem b1S.free (h:b1S s)(K s'):a0z K s s':=λi hi _=>h i hi
theorem b1S.next {α}{f:M α}{x}(h:b1S s)(hf:Fr f)(e:f s=some (x,s')):b1S s':=λi hi=>by obtain⟨dr,dw,_,_,e3,_,e5,_,e7,_⟩:=hf s x s' e;rw[e7 i (λq=>by have:=e5 i q;omega)];exact h i (wL e3 hi)
theorem d0Q {o:Oper}{next Q}(h:o.wp P a w next Q):o.wpIn Fence.wide m P a w next Q:=by
 refine⟨λ_ _=>trivial,?_⟩;show o.uponIn Fence.wide m P a next Q ((o.semAt none a.eval).run P w);rw[pX];unfold Oper.wp at h;generalize(execOp a.eval o).run P w=r at h;have hd:Fence.wide.depth.isSome=true->1<=m:=λq=>zb;cases r with
  |ok x w'=>cases x with|value v=>exact h|skip=>exact h|defer d=>exact h|enter f args=>exact⟨hd,qG.2 h⟩|row r args=>exact⟨hd,λc cs _=>let⟨v,w',q,st⟩:=h c cs;⟨v,w',q,stepsIn_wide.2 st⟩⟩|_=>exact absurd h (λq=>q)
  |halt x w'=>cases x with|panic v=>exact h|_=>exact absurd h (λq=>q)
theorem c4u (hT:TabOk P T){call}(hC:a4O P T B0 w0 call)(hF:∀f vs,Fr (call f vs))(ops){Q rest}:∀(n k) (fr fr') (s s') (K) (a) (w),k+n<=ops.size->a6a P T call ops.toList ((ops.toList.drop k).take n) fr s=some (fr',s')->Sim B0 w0 K s.h w->a0z K s s'->VRL K a.tmps.toList fr->GK T K->(∀a' w' K',Step B0 w0 K s' w' K'->VRL K' a'.tmps.toList fr'->a'.defers=a.defers->wpOpsIn Fence.wide m P ops Q rest a' w')->wpOpsIn Fence.wide m P ops Q (List.range' k n++rest) a w:=by intro n;induction n with|zero=>intro k fr fr' s s' K a w hk h S F hf hg hq;rw[List.take_zero]at h;obtain⟨rfl,rfl⟩:=y8 h;exact hq a w K (Step.same S rfl) hf rfl|succ n ih=>intro k fr fr' s s' K a w hk h S F hf hg hq;have hlt:k<ops.size:=zy;have hd:ops.toList.drop k=ops[k]::ops.toList.drop (k+1):=xq;rw[hd,List.take_succ_cons,b0V]at h;rw[rV,sQ];simp only[wpOpsIn,tZ hlt];rw[a9I ops a.tmps hf];cases hw:a1T ops.toList fr ops[k]with|true=>rw[hw]at h;simp only[rQ]at h⊢;obtain⟨v,s1,h1,h2⟩:=E8 h;have hle2:=(Fr.runOps P T hF _ _ _).le h2;refine d0Q (b0G hT hC h1 S (F.left hle2) hf hg λv' w' K' st r=>?_);refine ih (k+1) _ fr' s1 s' K' _ w' zy h2 st.sim (F.right (Fr.stepOp P T hF _ _) h1) (a8y (hf.mono st.le) _ r) (hg.mono st.le) λa2 w2 K2 st2 r2 d2=>?_;exact hq a2 w2 K2 (st.trans st2 hle2) r2 (by rw[d2,a2J])|false=>rw[hw]at h;simp only[vS,uS]at h⊢;refine⟨λ_ _=>trivial,ih (k+1) _ fr' s s' K _ w zy h S F (a8y hf _ (VR.undef K)) hg λa2 w2 K2 st2 r2 d2=>?_⟩;grind[a2J]
structure Rounds (P:Program) (R:Nat→Prop) (l m:Nat) (J Jx:List (List Value)→World→Prop) (full:List (List Value)):Prop where
 abides:∀ pre W W',J pre W→Below W.heap.size W W'→J pre W'
 round:∀ pre x W1,J pre W1→pre ++ [x] <+: full→YieldAt Fence.wide m P l x.toArray W1 fun e W'=>
  (e=.returned (.bool true)∧J (pre ++ [x]) W'∧KeepsR R W1 W')∨(e=.returned (.bool false)∧Jx (pre ++ [x]) W')
def YAt (T:Tab)(vs:a2C)(R:Nat->Prop)(J:List (List Value)->World->Prop)(ds:List Deferred)(log:Log)(fr:List Value)(s:S)(a:Act)(w:World):Prop:=∃B0 w0 K,Sim B0 w0 K s.h w/\w0.R=R/\B0=w0.w.heap.size/\J (log.map (·.2)) w0.w/\VRL K a.tmps.toList fr/\GK T K/\a.defers=ds/\b1S s/\LaidV vs w0.w/\vs.length<=B0
def d8J:Ex->Exit->Prop|.normal,e=>e=.normal|.exit id,e=>e=.exit id|.ret,e=>e=.ret
theorem d7s {z t}{ty:Nat}{b}(hz:z.op=.unOp .not t (.tmp ty))(he:a.eval (.tmp ty)=.bool b):(execOp a.eval z).run P w=.ok (.value (.bool (!b))) w:=by unfold execOp;rw[hz];simp only[he];rfl
theorem b5r {t v}(h:t<a.tmps.size):(a.put (some t) v).eval (.tmp t)=v:=by simp[Act.put,Act.eval,h]
theorem c1E {t:Option Nat}{v}:(a.put t v).tmps.size=a.tmps.size:=by cases t<;>simp[Act.put]
theorem LaidV.keeps {vs R w w'}(h:LaidV vs w)(hR:∀k,k<vs.length->R k)(hk:KeepsR R w w'):LaidV vs w':=⟨wL h.size hk.size,λg l hg off v hv=>by
 have hc:=h.cell g l hg off v hv;obtain⟨o,ho,hoc⟩:∃o:Obj,w.heap[g]?=some o/\o.isCells=true:=by unfold World.cell? at hc;cases hx:w.heap[g]? with|none=>grind|some o=>cases o with|cells=>exact⟨_,rfl,rfl⟩|_=>simp[hx]at hc
 rw[<-hc];exact uK (w:=w) (by dsimp only;rw[hk.same _ _ (hR g (xC.1 hg).1) ho (Or.inl hoc),ho]),λg l hg hl=>by obtain⟨t,fz,e⟩:=h.row g l hg hl;exact⟨t,fz,by rw[hk.same _ _ (hR g (xC.1 hg).1) e (Or.inl rfl)]⟩⟩
theorem b9j (hT:TabOk P T){call L6}(hC:∀B0 w0,LaidV L6 w0.w->L6.length<=B0->a4O P T B0 w0 call)(hF:∀f vs,Fr (call f vs)){R}{l m}{full}{J Jx}(hR:Rounds P R l m J Jx full)(hRv:∀k,k<L6.length->R k){x y}{p}(hp:b0L x y=some p){log log'}{ex}{fr'}{Q}{ds}(h:b0v P T call p fr log s=some ((ex,(fr',log')),s'))(hY:YAt T L6 R J ds log fr s a w)(hl:∀e∈log',e.1=l)(hN:log'.map (·.2)<+:full)(hq:∀e a' w',YAt T L6 R J ds log' fr' s' a' w'->d8J ex e->Q e a' w')(hx:∀a' w' pre,pre<+:log'.map (·.2)->Jx pre w'->a'.defers=ds->Q .ret a' w'):(Code.seq x y).wp P Q a w:=by
 obtain⟨⟨id,rfl⟩,rfl,p1,p2,p3,p4,p5,p6,p7,p8,⟨t,p9⟩,p10⟩:=c6b hp;obtain⟨B0,w0,K,S,hwR,hB0,hJ,hf,hg,hds,hfr,hL0,hLB⟩:=hY;obtain⟨fr1,s1,h1,h2⟩:=E8 h;obtain⟨⟨l',vs⟩,hyo,h3⟩:=H9 h2;obtain⟨hgd,h4⟩:=I4 h3;obtain⟨u,s2,h5,h6⟩:=E8 h4;rw[a8U,V7]at h6;obtain⟨e7,rfl⟩:=y8 h6;cases e7;simp only[wh]at hgd;obtain⟨⟨g1,g2⟩,g3⟩:=hgd;obtain⟨f,c1,c2,c3⟩:=c3h hyo;have hll:l'=l:=hl (l',vs) zn;subst hll;rw[J2]at g2 g3;have g2:p.ty<fr1.length:=by simpa using g2
 have g3:p.tz<fr1.length:=by simpa using g3
 obtain⟨fz1,fz2⟩:=c3Y h5;have hfr1:b1S s1:=hfr.next (Fr.runOps P T hF _ _ _) h1;have hlen:log.map (·.2)++[vs]<+:full:=zu;refine wpIn_wide (n:=m+1).1 (wpIn_seq (wpIn_region ?_));have hrange:List.range p.ops.size=List.range' 0 p.n++[p.n,p.n+1]:=by rw[<-p3,rM,<-List.range'_append];simp[rV]
 rw[hrange];refine c4u hT (hC B0 w0 hL0 hLB) hF p.ops p.n 0 fr fr1 s s1 K a w zy (by rw[ug,<-a3F];exact h1) S (hfr.free _ _) hf hg λa1 w1 K1 st r1 d1=>?_;have hsz:a1.tmps.size=fr1.length:=by have:=r1.len;omega
 have ef:a1.eval f=.func (.yield l') #[] #[]:=by
  have r:=O7 r1 (hg.mono st.le) c2;obtain⟨x1,y1,e,q1,q2⟩:=b7D r;rw[e];have e1:x1=#[]:=by apply qK;have:=q1.len;simp_all
  have e2:y1=#[]:=by apply qK;have:=q2.len;simp_all
  rw[e1,e2]
 have ea:p.c.args.toList.map a1.eval=vs:=by
  have r:=a6i r1 (hg.mono st.le) c3;apply vK;intro i;by_cases hi:i<vs.length;have hi':i<(p.c.args.toList.map a1.eval).length:=by rw[r.len];exact hi
  have q:=r.at_ i _ _ (wz hi') (wz hi);rw[wz hi',wz hi,q.eq_of_noAddr 8 ((R5 _ _).1 g1 vs[i] (vB hi))];rw[wT (by rw[r.len];omega),wT zy]
 have hop:execOp a1.eval p.y=Instr.yield l' vs.toArray:=by unfold execOp;rw[p4];show(do let d<-resolve a1.eval p.c p.y.type;invoke d.target d.args)=_;unfold resolve;rw[c1];show(do let d<-Deferred.ofValue (a1.eval f) (p.c.args.map a1.eval);invoke d.target d.args)=_;rw[ef];show Instr.yield l' (#[]++p.c.args.map a1.eval)=_;congr 1;grind
 have hJ1:J (log.map (·.2)) w1:=hR.abides _ _ _ hJ (by rw[<-hB0];exact st.sim.below);obtain⟨fn,tmps,assign,body,hrun,hround⟩:=hR.round (log.map (·.2)) vs w1 hJ1 hlen;have hw:∀(o:Oper) (ts:Array Value),o.guard=none->Region.wanted o (yielded p.ops ts)=true:=λo ts h=>by grind[Region.wanted]
 simp only[wpOpsIn,p1,p2];rw[hw _ _ p5,vX rfl];refine⟨λ_ _=>trivial,?_⟩;show p.y.uponIn Fence.wide (m+1) P a1 _ _ ((p.y.semAt none a1.eval).run P w1);rw[pX,hop,hrun,Oper.uponIn_round];refine⟨λq=>zb,hround.mono λe w2 he=>?_⟩;have tail:∀(b:Bool) (w2:World) (Q':Exit->Act->World->Prop),Q' .normal ((a1.put (some p.ty) (.bool b)).put (some p.tz) (.bool (!b))) w2->(if Region.wanted p.z (yielded p.ops (a1.put p.y.dst (.bool b)).tmps)=true then p.z.wpIn Fence.wide (m+1) P (a1.put p.y.dst (.bool b)) w2 (λa w=>Q' .normal a w) Q' else(∀f,p.z.about P w2 (a1.put p.y.dst (.bool b)).eval=some f->Fence.wide.fn f)/\Q' .normal ((a1.put p.y.dst (.bool b)).put p.z.dst undef) w2):=by intro b w2 Q' hQ;rw[hw _ _ p6,vX rfl];refine⟨λ_ _=>trivial,?_⟩;grind[Fence.wide,Oper.semAt_none,d7s,b5r,Oper.uponIn_value]
 rcases he with⟨rfl,hJ2,hk⟩|⟨rfl,hJx⟩;have hL1:LaidV L6 w1:=hL0.below st.sim.below hLB;have hL2:LaidV L6 w2:=hL1.keeps hRv hk;refine tail true w2 _ ?_;show((Code.cond (.tmp p.tz) .ret .skip).wpIn Fence.wide (m+1) P Q) _ w2;refine wpIn_cond_false (b5r (by rw[c1E];omega)) (wpIn_skip (hq _ _ _ ⟨w2.heap.size,⟨w2,R⟩,b0e K1,?_,rfl,rfl,?_,?_,?_,?_,?_,hL2,hL2.size⟩ rfl));have:=c5W st.sim fz2 (by rw[hwR];exact hk);rw[hwR]at this;exact this;grind;have q1:=(r1.frz.lset p.ty (VR.plain (K:=b0e K1) (v:=.bool true) rfl)).lset p.tz (VR.plain (K:=b0e K1) (v:=.bool false) rfl);grind[Act.put];exact(hg.mono st.le).frz;rw[a2J,a2J,d1,hds];intro i hi;rw[fz1]at hi;rcases fz2 i with⟨_,e⟩|⟨cs,cur,ro,e,_⟩;exact e;rw[hfr1 i hi]at e;cases e;refine tail false w2 _ ?_;show((Code.cond (.tmp p.tz) .ret .skip).wpIn Fence.wide (m+1) P Q) _ w2;grind[wpIn_cond_true,b5r,c1E,wpIn_ret,a2J]
end
end Go.V
end
noncomputable section
namespace Go.V
open Go.RowKit (Below)
section
variable {P:Program}{T:Tab}
theorem b8B {call}(n):∀c fr log s ex fr' log' s',a3o P T call n c fr log s=some ((ex,(fr',log')),s')->log<+:log':=by
 induction n with
  |zero=>intro c fr log s ex fr' log' s' h;cases h|succ n ih=>
   intro c fr log s ex fr' log' s' h;have h0:b5R P T call (a3o P T call n) c fr log s=some ((ex,(fr',log')),s'):=h;unfold b5R at h0;split at h0;grind[y8];obtain⟨r,s1,h1,h2⟩:=E8 h0;grind[y8];rename_i ca cb;cases hp:b0L ca cb with|some p=>rw[hp]at h0;obtain⟨fr1,s1,h1,h2⟩:=E8 h0;obtain⟨⟨l',vs⟩,hyo,h3⟩:=H9 h2;obtain⟨hgd,h4⟩:=I4 h3;obtain⟨u,s2,h5,h6⟩:=E8 h4;rw[a8U,V7]at h6;grind[y8]|none=>rw[hp]at h0;obtain⟨⟨x1,fr1,log1⟩,s1,h1,h2⟩:=E8 h0;have p1:=ih _ _ _ _ _ _ _ _ h1;cases x1<;>first|rfl|grind[y8]
   obtain⟨u,e1,h1⟩:=H9 h0;cases u with|bool t=>cases t<;>exact ih _ _ _ _ _ _ _ _ h1|_=>cases h1
   rename_i bid cb;obtain⟨⟨x1,fr1,log1⟩,s1,h1,h2⟩:=E8 h0;have p1:=ih _ _ _ _ _ _ _ _ h1;cases x1 with
    |normal=>grind[y8]|exit id'=>dsimp only at h2;cases hb:Nat.beq id' bid with|true=>rw[hb]at h2;grind[y8]|false=>rw[hb]at h2;grind[y8]
    |ret=>grind[y8]
   rw[a8U]at h0;obtain⟨⟨x1,fr1,log1⟩,s1,h1,h2⟩:=E8 h0;have p1:=ih _ _ _ _ _ _ _ _ h1;cases x1<;>first|rfl|grind[y8]
   grind[y8];grind[y8];cases h0
structure Ways (T:Tab) (L6:a2C) (R:Nat→Prop) (J Jx:List (List Value)→World→Prop) (ds:List Deferred) (ex:Ex) (fr':List Value) (log':Log) (s':S) (Q:Exit→Act→World→Prop):Prop where
 on:∀ e a' w',YAt T L6 R J ds log' fr' s' a' w'→d8J ex e→Q e a' w'
 off:∀ a' w' pre,pre <+: log'.map (·.2)→Jx pre w'→a'.defers=ds→Q .ret a' w'
theorem c9k (hT:TabOk P T)(hM:P.follows .mixedOrders=true){call L6}(hC:∀B0 w0,LaidV L6 w0.w->L6.length<=B0->a4O P T B0 w0 call)(hF:∀f vs,Fr (call f vs)){R}{l m}{full}{J Jx}(hR:Rounds P R l m J Jx full)(hRv:∀k,k<L6.length->R k){ds}(n):(∀c fr log s ex fr' log' s' a w Q,a3o P T call n c fr log s=some ((ex,(fr',log')),s')->YAt T L6 R J ds log fr s a w->(∀e∈log',e.1=l)->log'.map (·.2)<+:full->Ways T L6 R J Jx ds ex fr' log' s' Q->c.wp P Q a w)/\(∀b fr log s ex fr' log' s' a w Q,a3o P T call n (.loop b) fr log s=some ((ex,(fr',log')),s')->YAt T L6 R J ds log fr s a w->(∀e∈log',e.1=l)->log'.map (·.2)<+:full->Ways T L6 R J Jx ds ex fr' log' s' Q->Code.rounds P b Q n a w):=by
 induction n with
  |zero=>constructor;intro c fr log s ex fr' log' s' a w Q h;cases h;intro b fr log s ex fr' log' s' a w Q h;cases h|succ n ih=>
   obtain⟨ihA,ihB⟩:=ih;have sub:∀{log1 log':Log},log1<+:log'->(∀e∈log',e.1=l)->log'.map (·.2)<+:full->(∀e∈log1,e.1=l)/\log1.map (·.2)<+:full:=λhp h1 h2=>⟨λe he=>h1 e (hp.subset he),(hp.map _).trans h2⟩;have hB:∀b fr log s ex fr' log' s' a w Q,a3o P T call (n+1) (.loop b) fr log s=some ((ex,(fr',log')),s')->YAt T L6 R J ds log fr s a w->(∀e∈log',e.1=l)->log'.map (·.2)<+:full->Ways T L6 R J Jx ds ex fr' log' s' Q->Code.rounds P b Q (n+1) a w:=by intro b fr log s ex fr' log' s' a w Q h hY hl hN hW;have h1:fList fr (λfr=>M.bind (a3o P T call n b fr log) λr=>match r.1 with|.normal=>a3o P T call n (.loop b) r.2.1 r.2.2|.exit id=>M.pure (.exit id,r.2)|.ret=>M.pure (.ret,r.2)) s=some ((ex,(fr',log')),s'):=h;rw[a8U]at h1;obtain⟨⟨x1,fr1,log1⟩,s1,h2,h3⟩:=E8 h1;show b.wp P (Exit.then (Code.rounds P b Q n) Q) a w;cases x1 with|normal=>have h3:a3o P T call n (.loop b) fr1 log1 s1=some ((ex,(fr',log')),s'):=h3;have hp:=b8B n _ _ _ _ _ _ _ _ h3;obtain⟨q1,q2⟩:=sub hp hl hN;refine ihA b fr log s .normal fr1 log1 s1 a w _ h2 hY q1 q2 ⟨λe a' w' y he=>?_,λa' w' pre hpre hx hd=>?_⟩;have he:e=.normal:=he;subst he;exact ihB b fr1 log1 s1 ex fr' log' s' a' w' Q h3 y hl hN hW;exact hW.off a' w' pre (hpre.trans (hp.map _)) hx hd|exit id=>have h3:M.pure (Ex.exit id,(fr1,log1)) s1=some ((ex,(fr',log')),s'):=h3;obtain⟨e,rfl⟩:=y8 h3;cases e;refine ihA b fr log s _ _ _ _ a w _ h2 hY hl hN ⟨λe a' w' y he=>?_,λa' w' pre hpre hx hd=>hW.off a' w' pre hpre hx hd⟩;have he':e=.exit id:=he;subst he';exact hW.on _ _ _ y he|ret=>have h3:M.pure (Ex.ret,(fr1,log1)) s1=some ((ex,(fr',log')),s'):=h3;obtain⟨e,rfl⟩:=y8 h3;cases e;refine ihA b fr log s _ _ _ _ a w _ h2 hY hl hN ⟨λe a' w' y he=>?_,λa' w' pre hpre hx hd=>hW.off a' w' pre hpre hx hd⟩;have he':e=.ret:=he;subst he';exact hW.on _ _ _ y he
   refine⟨λc fr log s ex fr' log' s' a w Q h hY hl hN hW=>?_,hB⟩;have h0:b5R P T call (a3o P T call n) c fr log s=some ((ex,(fr',log')),s'):=h;cases c with
    |skip=>have h0:M.pure (Ex.normal,(fr,log)) s=some ((ex,(fr',log')),s'):=h0;obtain⟨e,rfl⟩:=y8 h0;cases e;exact wp_skip (hW.on _ _ _ hY rfl)|region id ops draw=>have h0:M.bind (region P T call ops.toList draw fr) (λr=>M.pure (r.1,(r.2,log))) s=some ((ex,(fr',log')),s'):=h0;obtain⟨⟨x1,fr1⟩,s1,h1,h2⟩:=E8 h0;obtain⟨e,rfl⟩:=y8 h2;cases e;obtain⟨B0,w0,K,S,hwR,hB0,hJ,hf,hg,hds,hfr,hL0,hLB⟩:=hY;refine(c2n hT hM (hC B0 w0 hL0 hLB) hF 1).1 (.region id ops draw) fr s _ _ _ K a w Q h1 S (hfr.free _ _) hf hg λe a' w' L=>?_;obtain⟨K',st,r,d,q⟩:=L;refine hW.on e a' w' ⟨B0,w0,K',st.sim,hwR,hB0,hJ,r,hg.mono st.le,by rw[d,hds],hfr.next (Fr.region P T hF _ _ _) h1,hL0,hLB⟩ ?_;cases x1<;>exact q|seq x y=>cases hp:b0L x y with|some p=>have h0:(match b0L x y with|some p=>b0v P T call p fr log|none=>M.bind (a3o P T call n x fr log) λr=>match r.1 with|.normal=>a3o P T call n y r.2.1 r.2.2|.exit id=>M.pure (.exit id,r.2)|.ret=>M.pure (.ret,r.2)) s=some ((ex,(fr',log')),s'):=h0;rw[hp]at h0;exact b9j hT hC hF hR hRv hp h0 hY hl hN hW.on hW.off|none=>have h0:(match b0L x y with|some p=>b0v P T call p fr log|none=>M.bind (a3o P T call n x fr log) λr=>match r.1 with|.normal=>a3o P T call n y r.2.1 r.2.2|.exit id=>M.pure (.exit id,r.2)|.ret=>M.pure (.ret,r.2)) s=some ((ex,(fr',log')),s'):=h0;rw[hp]at h0;obtain⟨⟨x1,fr1,log1⟩,s1,h2,h3⟩:=E8 h0;refine wp_seq ?_;cases x1 with|normal=>have h3:a3o P T call n y fr1 log1 s1=some ((ex,(fr',log')),s'):=h3;have hp:=b8B n _ _ _ _ _ _ _ _ h3;obtain⟨q1,q2⟩:=sub hp hl hN;refine ihA x fr log s .normal fr1 log1 s1 a w _ h2 hY q1 q2 ⟨λe a' w' y' he=>?_,λa' w' pre hpre hx hd=>?_⟩;have he:e=.normal:=he;subst he;exact ihA y fr1 log1 s1 ex fr' log' s' a' w' Q h3 y' hl hN hW;exact hW.off a' w' pre (hpre.trans (hp.map _)) hx hd|exit id=>have h3:M.pure (Ex.exit id,(fr1,log1)) s1=some ((ex,(fr',log')),s'):=h3;obtain⟨e,rfl⟩:=y8 h3;cases e;refine ihA x fr log s _ _ _ _ a w _ h2 hY hl hN ⟨λe a' w' y he=>?_,λa' w' pre hpre hx hd=>hW.off a' w' pre hpre hx hd⟩;have he':e=.exit id:=he;subst he';exact hW.on _ _ _ y he|ret=>have h3:M.pure (Ex.ret,(fr1,log1)) s1=some ((ex,(fr',log')),s'):=h3;obtain⟨e,rfl⟩:=y8 h3;cases e;refine ihA x fr log s _ _ _ _ a w _ h2 hY hl hN ⟨λe a' w' y he=>?_,λa' w' pre hpre hx hd=>hW.off a' w' pre hpre hx hd⟩;have he':e=.ret:=he;subst he';exact hW.on _ _ _ y he
    |cond x c1 c2=>
     have h0:M.obind (Y0 T fr x) (λv=>match v with
      |.bool t=>match t with|true=>a3o P T call n c1 fr log|false=>a3o P T call n c2 fr log
      |_=>M.fail) s=some ((ex,(fr',log')),s'):=h0;obtain⟨u,e1,h1⟩:=H9 h0;have hY':=hY;obtain⟨B0,w0,K,S,hwR,hB0,hJ,hf,hg,hds,hfr,hL0,hLB⟩:=hY';have r:=O7 hf hg e1;cases u with
      |bool t=>have hb:=b3Y r;cases t<;>first|rfl|grind[wp_cond_true,wp_cond_false]
      |_=>cases h1
    |block id b=>
     have h0:M.bind (a3o P T call n b fr log) (λr=>match r.1 with
      |.normal=>M.pure (.normal,r.2)|.exit id'=>match Nat.beq id' id with|true=>M.pure (.normal,r.2)|false=>M.pure (.exit id',r.2)
      |.ret=>M.pure (.ret,r.2)) s=some ((ex,(fr',log')),s'):=h0;obtain⟨⟨x1,fr1,log1⟩,s1,h2,h3⟩:=E8 h0;refine wp_block ?_;cases x1 with
      |normal=>have h3:M.pure (Ex.normal,(fr1,log1)) s1=some ((ex,(fr',log')),s'):=h3;obtain⟨e,rfl⟩:=y8 h3;cases e;refine ihA b fr log s _ _ _ _ a w _ h2 hY hl hN ⟨λe a' w' y he=>?_,λa' w' pre hpre hx hd=>hW.off a' w' pre hpre hx hd⟩;have he':e=.normal:=he;subst he';exact hW.on _ _ _ y he|exit id'=>have h3:(match Nat.beq id' id with|true=>M.pure (Ex.normal,(fr1,log1))|false=>M.pure (Ex.exit id',(fr1,log1))) s1=some ((ex,(fr',log')),s'):=h3;cases hb:Nat.beq id' id with|true=>rw[hb]at h3;obtain⟨e,rfl⟩:=y8 h3;cases e;refine ihA b fr log s _ _ _ _ a w _ h2 hY hl hN ⟨λe a' w' y he=>?_,λa' w' pre hpre hx hd=>hW.off a' w' pre hpre hx hd⟩;have he':e=.exit id':=he;subst he';show(if id'=id then Q .normal a' w' else Q (.exit id') a' w');rw[vX (wo hb)];exact hW.on _ _ _ y rfl|false=>rw[hb]at h3;obtain⟨e,rfl⟩:=y8 h3;cases e;refine ihA b fr log s _ _ _ _ a w _ h2 hY hl hN ⟨λe a' w' y he=>?_,λa' w' pre hpre hx hd=>hW.off a' w' pre hpre hx hd⟩;have he':e=.exit id':=he;subst he';show(if id'=id then Q .normal a' w' else Q (.exit id') a' w');rw[vg (λq=>zm)];exact hW.on _ _ _ y he
      |ret=>have h3:M.pure (Ex.ret,(fr1,log1)) s1=some ((ex,(fr',log')),s'):=h3;obtain⟨e,rfl⟩:=y8 h3;cases e;refine ihA b fr log s _ _ _ _ a w _ h2 hY hl hN ⟨λe a' w' y he=>?_,λa' w' pre hpre hx hd=>hW.off a' w' pre hpre hx hd⟩;have he':e=.ret:=he;subst he';exact hW.on _ _ _ y he
    |loop b=>grind[wp_loop_rounds]|exit id=>have h0:M.pure (Ex.exit id,(fr,log)) s=some ((ex,(fr',log')),s'):=h0;obtain⟨e,rfl⟩:=y8 h0;cases e;exact wp_exit (hW.on _ _ _ hY rfl)|ret=>have h0:M.pure (Ex.ret,(fr,log)) s=some ((ex,(fr',log')),s'):=h0;obtain⟨e,rfl⟩:=y8 h0;cases e;exact wp_ret (hW.on _ _ _ hY rfl)|_=>cases h0
end
end Go.V
end
noncomputable section
namespace Go.V
open Go.RowKit (Below)
section
variable {P:Program}{T:Tab}{vs:a2C}
theorem b3A {fn tmps w}(h:fn.results=#[]):(results fn tmps).run P w=.ok (.tuple #[]) w:=by simp_all[results]
def RB (vs:a2C)(B:Nat):Nat->Prop:=λk=>k<vs.length\/B<=k
theorem b9n (hT:TabOk P T)(hM:P.follows .mixedOrders=true)(hng:T.ng<=vs.length)(hp:∀l∈vs,∀v∈l,plain v=true){ext}(hE:a2X P T vs ext){n m f fn c α}{enc:α->List Value}{full:List α}(hPf:P.funcs[f]?=some fn)(hb:fn.body=some c)(hres:fn.results=#[]) (hrun:∀l,∃ex fr' s',a3o P T (a7c P T ext n) n c (Value.func (.yield l) #[] #[]::List.replicate (fn.ntmps-1) undef) [] (a3a vs)=some ((ex,(fr',full.map λx=>(l,enc x))),s')/\∀id,ex≠.exit id) {w} (hL:LaidV vs w) {B} (hB:B<=w.heap.size) (hBv:vs.length<=w.heap.size):SeqStopsK Fence.wide m P f #[] (λx=>(enc x).toArray) (KeepsR (RB vs B)) (λxs=>xs=full) (λpre=>pre<+:full) full.length w:=by
 intro l J Jx W hW hJ hJx hround h0;refine qG.2 (calls_of_wp hPf hb ?_);have hLW:LaidV vs W:=hL.below hW hBv;let J0:List (List Value)->World->Prop:=λxs W=>∃pre,xs=pre.map enc/\pre<+:full/\J pre W;let Jx0:List (List Value)->World->Prop:=λxs W=>∃pre,xs=pre.map enc/\pre<+:full/\Jx pre W;have hR:Rounds P (RB vs B) l (m-1) J0 Jx0 (full.map enc):=by
  refine⟨λxs W1 W2 h hb2=>?_,λxs x W1 h hpre=>?_⟩;obtain⟨pre,e,hp1,hj⟩:=h;exact⟨pre,e,hp1,hJ pre W1 W2 none hj ⟨hb2.os,hb2.tape,hb2.output,hb2.size,λk hk _=>hb2.block k hk⟩ (λr q=>zb)⟩;obtain⟨pre,rfl,⟨rest,rfl⟩,hj⟩:=h;cases rest with
   |nil=>have:=hpre.length_le;grind|cons y ys=>
    have hx:x=enc y:=by rw[ut,List.prefix_append_right_inj]at hpre;simp_all
    subst hx;obtain⟨f0,tm,as0,bd,q1,q2⟩:=hround pre y W1 hj zn;have hp2:pre++[y]<+:pre++y::ys:=⟨ys,zn⟩;refine⟨f0,tm,as0,bd,q1,q2.mono λe W' he=>?_⟩;grind
 obtain⟨ex,fr',s',hr,hex⟩:=hrun l;have hC:∀B0 w0,LaidV vs w0.w->vs.length<=B0->a4O P T B0 w0 (a7c P T ext n):=λB0 w0 h1 h2=>b3w hT hM (hE B0 w0 h1 h2) n;have hF:∀f aS9,Fr (a7c P T ext n f aS9):=Fr.callV P T (hE W.heap.size ⟨W,λ_=>True⟩ hLW hLW.size).1 n;have hlen:(full.map λx=>(l,enc x)).map (·.2)=full.map enc:=by rw[tX];rfl
 refine(c9k hT hM hC hF hR (λk hk=>Or.inl hk) (ds:=[]) n).1 c _ [] (a3a vs) ex fr' _ s' _ W _ hr ⟨W.heap.size,⟨W,RB vs B⟩,a6b vs,?_,rfl,rfl,⟨[],rfl,List.nil_prefix,h0⟩,?_,b2n hng,rfl,?_,hLW,hLW.size⟩ ?_ (by rw[hlen];simp_all) ⟨?_,?_⟩;exact b0t (λk hk=>Or.inr (wL hB (wL hW.size hk))) (λk hk=>Or.inl hk) hLW hp;simp only[tO,tC];show VRL (a6b vs) ([Value.func (.yield l) #[] #[]]++List.replicate (fn.ntmps-1) undef) ([Value.func (.yield l) #[] #[]]++List.replicate (fn.ntmps-1) undef);refine VRL.append ⟨rfl,λi v' v h1 h2=>?_⟩ (VRL.replicate _);rw[h1]at h2;cases h2;cases i with|zero=>cases h1;exact .func rfl (λi v' v q=>by simp at q) rfl (λi v' v q=>by simp at q)|succ i=>simp at h1
 intro i hi;rw[a1H];have:vs.length<=i:=yG;rw[wT this];simp_all;intro e a' w' y he;obtain⟨B0,w0,K,S,hwR,hB0,hJ',hf,hg,hds,hfr,_,_⟩:=y;rw[hlen]at hJ';obtain⟨pre,e1,e2,hJw⟩:=hR.abides _ _ _ hJ' (by rw[<-hB0];exact S.below);have e3:pre=full:=e2.eq_of_length (by have:=wO List.length e1;grind);subst e3;have post:a'.defers=[]/\∃v,(results fn a'.tmps).run P w'=.ok v w'/\((∃u,Ending.returned v=.returned u)/\((∃xs,xs=pre/\J xs w')\/(∃pre',pre'<+:pre/\Jx pre' w'))):=⟨hds,_,b3A hres,⟨_,rfl⟩,Or.inl ⟨_,rfl,hJw⟩⟩;cases ex with|exit id=>simp_all|normal=>have he:e=.normal:=he;subst he;exact post|ret=>have he:e=.ret:=he;subst he;exact post
 intro a' w' pre hpre hx hd;obtain⟨pre',_,e2,hx⟩:=hx;exact⟨hd,_,b3A hres,⟨_,rfl⟩,Or.inr ⟨pre',e2,hx⟩⟩
end
end Go.V
end
noncomputable section
namespace Go.V
open Go.RowKit (Below)
def J8 (ext:Nat->Option (List Value->M Value))(f:Nat)(g:List Value->M Value):Nat->Option (List Value->M Value):=λi=>match Nat.beq i f with|true=>some g|false=>ext i
section
variable {P:Program}{T:Tab}{vs:a2C}
def V6 (P:Program)(T:Tab)(vs:a2C)(f:Nat)(g:List Value->M Value):Prop:=(∀aS9,Fr (g aS9))/\∀B0 w0,LaidV vs w0.w->vs.length<=B0->∀aS9 s v s' w K as',g aS9 s=some (v,s')->Sim B0 w0 K s.h w->GK T K->a0z K s s'->VRL K as' aS9->(∃v' w' K',(callFunc f as'.toArray).run P w=.ok (.value v') w'/\Step B0 w0 K s' w' K'/\VR K' v' v)\/((callFunc f as'.toArray).run P w=.ok (.enter f as'.toArray) w/\Calls P f as'.toArray w λe w'=>∃v' K',e=.returned v'/\Step B0 w0 K s' w' K'/\VR K' v' v)
theorem a9K {ext}(hE:a2X P T vs ext){f g}(hg:V6 P T vs f g):a2X P T vs (J8 ext f g):=by
 intro B0 w0 hL hB;have h0:=hE B0 w0 hL hB;constructor;intro i m hm aS9;unfold J8 at hm;cases hb:Nat.beq i f with|true=>rw[hb]at hm;cases hm;exact hg.1 aS9|false=>rw[hb]at hm;exact h0.1 i m hm aS9
 intro i m hm;unfold J8 at hm;cases hb:Nat.beq i f with|true=>rw[hb]at hm;cases hm;obtain rfl:=wo hb;exact hg.2 B0 w0 hL hB|false=>rw[hb]at hm;exact h0.2 i m hm
theorem a9p {K as' aS9}(h:VRL K as' aS9)(hn:M0 (M7 8) aS9=true):as'=aS9:=by
 apply vK;intro i;by_cases hi:i<aS9.length;have hi':i<as'.length:=by rw[h.len];exact hi
 have r:=h.at_ i _ _ (wz hi') (wz hi);rw[wz hi',wz hi,r.eq_of_noAddr 8 ((R5 _ _).1 hn aS9[i] (vB hi))];rw[wT (by rw[h.len];omega),wT zy]
def b6F (f:List Value->Option (List Value))(aS9:List Value):M Value:=M.obind (f aS9) λxs=>M.bind (a0b xs) λa=>a8t (F9 xs) λn=>M.pure (.slice (some a) n 1)
theorem c1N {f:Nat}{g}(hg:∀aS9 xs,g aS9=some xs->M0 (M7 8) aS9=true/\M0 plain xs=true/\∀w,LaidV vs w->(callFunc f aS9.toArray).run P w=.ok (.enter f aS9.toArray) w/\Calls P f aS9.toArray w λe w'=>e=.returned (.slice (some ⟨w.heap.size,0,none⟩) xs.length xs.length)/\∃t,w'=w.alloc (.cells xs.toArray t)):V6 P T vs f (b6F g):=by
 refine⟨λaS9=>Fr.obind _ λxs=>Fr.bind (Fr.newCells _) λa=>?_,?_⟩;rw[a4b];exact Fr.pure _;intro B0 w0 hL hB aS9 s v s' w K as' h S hG F has;obtain⟨xs,e1,h1⟩:=H9 h;obtain⟨a,s1,h2,h3⟩:=E8 h1;rw[a4b,J2]at h3;obtain⟨e2,rfl⟩:=y8 h3;obtain⟨g1,g2,g3⟩:=hg aS9 xs e1;rw[a9p has g1];obtain⟨c1,c2⟩:=g3 w (hL.below S.below hB);refine Or.inr ⟨c1,c2.mono λe w' ⟨q1,t,q2⟩=>?_⟩;have hblk:w'.heap[w.heap.size]?=some (.cells xs.toArray t (0,0)):=by rw[q2];exact World.alloc_heap_new w _
 have hx:VRL K xs xs:=⟨rfl,λi v' v h1 h2=>by rw[h1]at h2;cases h2;exact .plain ((R5 _ _).1 g2 _ (wG h1))⟩;obtain⟨K',k1,k2,k3⟩:=a5X (rest:=[]) h2 S F hx (by rw[q2];exact Grew.alloc w _) hblk zn (λo _=>zn);refine⟨_,K',q1,k1,?_⟩;rw[e2,k3];refine VR.slice (a':=⟨w.heap.size,0,none⟩) k2 (vY _) zy (xD _) (Or.inr rfl) (Or.inr ⟨rfl,rfl,λ_=>zn⟩)
end
def b1k (l:List UInt8):List UInt8->List (List UInt8):=List.rec (motive:=λ_=>List UInt8->List (List UInt8)) (λcur=>match cur with|[]=>[]|c::cs=>[c::cs]) (λb _ ih cur=>match Lib.isSp b with
 |true=>match cur with|[]=>ih []|c::cs=>(c::cs)::ih []
 |false=>ih (I9 cur [b])) l
theorem c6s (l):∀cur,b1k l cur=Lib.fieldsGo cur l:=by induction l with|nil=>intro cur;cases cur<;>rfl|cons b l ih=>intro cur;show(match Lib.isSp b with|true=>(match cur with|[]=>b1k l []|c::cs=>(c::cs)::b1k l [])|false=>b1k l (I9 cur [b]))=_;rw[Lib.fieldsGo];cases Lib.isSp b<;>first|rfl|grind[V7]
def b1o (aS9:List Value):Option (List Value):=match aS9 with
 |[]=>none|v::rest=>match rest with
  |[]=>match v with
   |.string s=>match M0 (λb=>Nat.blt b.toNat 128) s.data.toList&&Nat.blt (F9 s.data.toList) 4294967281 with|true=>some (J7 (λl=>Value.string ⟨⟨l⟩⟩) (b1k s.data.toList []))|false=>none
   |_=>none
  |_::_=>none
theorem c4w {aS9 xs}(h:b1o aS9=some xs):∃s,aS9=[.string s]/\s.size<4294967281/\(∀(j:Nat) b,s.data.toList[j]?=some b->b.toNat<128)/\xs=(Lib.fields s.data.toList).map λl=>Value.string ⟨l.toArray⟩:=by
 unfold b1o at h;split at h;cases h;split at h;split at h;rename_i s;cases hb:M0 (λb=>Nat.blt b.toNat 128) s.data.toList&&Nat.blt (F9 s.data.toList) 4294967281 with|false=>rw[hb]at h;cases h|true=>rw[hb]at h;cases h;simp only[wh]at hb;refine⟨s,rfl,?_,λj b hj=>?_,?_⟩;have:=hb.2;rw[J2]at this;have:s.data.toList.length<4294967281:=zm;simp_all;have:=(R5 _ _).1 hb.1 b (wG hj);simp_all;rw[a1z,c6s];rfl
 cases h;cases h
end Go.V
end
section
namespace Go.V
open Go.RowKit (Below)
theorem Trie.bound {α}(t:Trie α):∃c,∀i,c<=i->t.get i=none:=by induction t with|leaf=>simp_all[Trie.get_leaf]|node v l r ihl ihr=>obtain⟨a,ha⟩:=ihl;obtain⟨b,hb⟩:=ihr;refine⟨2*a+2*b+3,λi hi=>?_⟩;obtain⟨k,rfl⟩:∃k,i=k+1:=⟨i-1,zy⟩;rw[Trie.get_node_succ];grind
def b4r (a d c:Nat):Nat->Prop:=λi=>i<c/\¬(a<=i/\i<d)
theorem c4e {P T vs}(hT:TabOk P T)(hM:P.follows .mixedOrders=true){ext}(hE:a2X P T vs ext){N}{sh}(hs:a8h P T ext N sh){f}{fn}{c}(hPf:P.funcs[f]?=some fn)(hnum:(fn.name== "runtime.NumGoroutine")=false)(hb:fn.body=some c){g}(hFr:∀aS9,Fr (g aS9))(h:∀aS9 s v s1,g aS9 s=some (v,s1)->∀c',s.c<=c'->s1.c<=c'->(∀i,c'<=i->s.h.get i=none)->∃n v2 s2 m,o8 sh n f aS9 ⟨c',s.h,s.r,s.w⟩=some (.ret v2,s2)/\View (b4r s.c s1.c c') m s.h s1.h s2.h/\VRen (b4r s.c s1.c c') m v v2/\∀i,s1.c<=i->i<c'->s2.h.get i=s.h.get i):V6 P T vs f g:=by
 refine⟨hFr,?_⟩;intro B0 w0 hL hB aS9 s v s1 w K as' hg S hG F has;have hE':=hE B0 w0 hL hB;obtain⟨c0,hc0⟩:=Trie.bound s.h;obtain⟨dr,dw,_,_,hle1,_,hdw,_,hkeep,_⟩:=hFr aS9 s v s1 hg;obtain⟨n,v2,s2,m,hrun,hV,hv,hfor⟩:=h aS9 s v s1 hg (c0+s.c+s1.c) zy zy (λi hi=>hc0 i zy);generalize hc':c0+s.c+s1.c=c' at hrun hV hv hfor;have hbig:∀i,c'<=i->s.h.get i=none:=λi hi=>hc0 i zy;refine Or.inr ⟨a0c hPf hnum hb,?_⟩;rcases b0H hT hM hE' hs n f aS9 ⟨c',s.h,s.r,s.w⟩ (.ret v2) s2 w K as' hrun S hG (λi hi _=>hbig i hi) has with⟨v1,v',w',K',_,q1,_⟩|⟨_,q⟩;rw[a0c hPf hnum hb]at q1;cases q1;refine q.mono λe w' hq=>?_;obtain⟨v',K2,e1,st,r⟩:=hq;have hn:∀b x,m b=some x->¬b4r s.c s1.c c' b:=λb x e=>(hV.new b x.1 x.2 e).1;have hob:∀b o,s.h.get b=some o->b4r s.c s1.c c' b:=λb o ho=>by refine⟨?_,λhx=>?_⟩;grind;rw[F b hx.1 hx.2]at ho;cases ho
 refine⟨v',KR (b4r s.c s1.c c') m K2,e1,⟨λb g' l hk=>?_,λi g' hi=>?_,e2p hV S st.le hob st.sim⟩,VR.ren hn hv r⟩;obtain⟨o,ho⟩:=S.dom2 b g' l hk;rw[a6d (hob b o ho)];exact st.le b g' l hk;by_cases hlt:i<c';rw[a6d ⟨hlt,zy⟩];exact c8A S st.sim st.le (hfor i hi hlt) g';have hsn:s.h.get i=none:=hbig i zy;rw[S.none hsn g'];cases hk:KR (b4r s.c s1.c c') m K2 i g' with|none=>rfl|some l=>rcases b6j hk with⟨hb',_⟩|⟨_,_,b2,g2,hm,_⟩;exact absurd hb'.1 hlt;obtain⟨_,_,cs,ds,e2,_⟩:=hV.new i b2 g2 hm;have:s1.h.get i=s.h.get i:=hkeep i (λhx=>by have:=hdw i hx;omega);rw[this,hsn]at e2;cases e2
end Go.V
end
noncomputable section
namespace Go.V
def upd (h:Trie VObj)(i:Nat)(o:VObj):Trie VObj:=Trie.put (some o) (i+1) h i
theorem c5v (h i o j):(upd h i o).get j=if j=i then some o else h.get j:=Trie.get_put _ _ _ _ (wu _) _
theorem b2w {h i o j}(e:j=i):(upd h i o).get j=some o:=by rw[c5v,vX e]
theorem d9 {h i o j}(e:j≠i):(upd h i o).get j=h.get j:=by rw[c5v,vg e]
theorem o7 (h i o):(upd h i o).get i=some o:=b2w rfl
section
variable {α β:Type}(c:Nat)(h:Trie VObj)(r w:List Nat)
theorem e9I (m:M α)(f:α->M β):M.bind m f ⟨c,h,r,w⟩=match m ⟨c,h,r,w⟩with|none=>none|some x=>f x.1 x.2:=wm rfl rfl
theorem e8z (a:α):M.pure a ⟨c,h,r,w⟩=some (a,⟨c,h,r,w⟩):=wm rfl rfl
theorem b5M (i:Nat):rd i ⟨c,h,r,w⟩=match Nat.blt i c with
 |true=>match h.get i with|some o=>some (o,⟨c,h,i::r,w⟩)|none=>none
 |false=>none:=wm rfl rfl
theorem b2U (i:Nat)(o:VObj):wr i o ⟨c,h,r,w⟩=match Nat.blt i c with
 |true=>match h.get i with|some _=>some ((),⟨c,upd h i o,r,i::w⟩)|none=>none
 |false=>none:=by unfold wr;cases Nat.blt i c with|false=>rfl|true=>cases h.get i with|none=>rfl|some _=>simp only;rw[Trie.putK_eq];rfl
theorem c5C (o):new o ⟨c,h,r,w⟩=some (c,⟨c+1,upd h c o,r,c::w⟩):=by rw[b2N];rfl
theorem c1v (m:M α):M.foot m ⟨c,h,r,w⟩=match m ⟨c,h,[],[]⟩with|none=>none|some x=>some ((x.1,(x.2.r,x.2.w)),⟨x.2.c,x.2.h,I9 x.2.r r,I9 x.2.w w⟩):=wm rfl rfl
end
theorem Q0 {α}(a:α):M.foot (M.pure a)=M.pure (a,([],[])):=wm rfl rfl
theorem G7 {α β}(a)(f:α->M β):M.obind (some a) f=f a:=wm rfl rfl
theorem V4 {α}(m:M α):M.guard true m=m:=wm rfl rfl
theorem b3s {α}(a:α):M.lift (some a)=M.pure a:=wm rfl rfl
theorem a5g {α}(l:List α):I9 [] l=l:=wm rfl rfl
theorem a6g {α}(x:α)(l m):I9 (x::l) m=x::I9 l m:=wm rfl rfl
theorem a6Y {α}(cs cur ro)(k:List (Value×Nat)->Nat->Bool->M α):a7t (.cells cs cur ro) k=k cs cur ro:=wm rfl rfl
theorem a2T {α}(a)(k:Addr->M α):a0G (.pointer (some a)) k=k a:=wm rfl rfl
theorem L8 {a b}(h:a<b):Nat.blt a b=true:=zm
theorem a2e {a b:Nat}(h:a<=b):Nat.ble a b=true:=uO h
theorem V5 {a b:Nat}(h:a≠b):Nat.beq a b=false:=by cases q:Nat.beq a b<;>simp_all
theorem J4 (a:Nat):Nat.beq a a=true:=zn
theorem a6c (a:Nat):Nat.ble 0 a=true:=wm rfl rfl
theorem Y5 (g cs):A7 g cs 0=some []:=by cases cs<;>rfl
theorem a0D (g:Nat)(v:Value)(st:Nat)(cs:List (Value×Nat))(n:Nat):A7 g ((v,st)::cs) (n+1)=match Nat.ble st g with
 |true=>match A7 g cs n with|some vs=>some (v::vs)|none=>none
 |false=>none:=wm rfl rfl
theorem Y7 {α}(l:List α):F8 l 0=l:=by cases l<;>rfl
theorem a4L {α}(x:α)(l n):F8 (x::l) (n+1)=F8 l n:=wm rfl rfl
theorem a3g {α β}(f:α->β):J7 f []=[]:=wm rfl rfl
theorem a2w {α β}(f:α->β)(x l):J7 f (x::l)=f x::J7 f l:=wm rfl rfl
theorem b1T {α}:F9 ([]:List α)=0:=wm rfl rfl
theorem a5V {α}(x:α)(l):F9 (x::l)=F9 l+1:=wm rfl rfl
theorem a7g {α}(f:α->Bool):M0 f []=true:=wm rfl rfl
theorem O5 {α}(x:α)(l):a0r (x::l) 0=some x:=wm rfl rfl
theorem O4 {α}(x:α)(l n):a0r (x::l) (n+1)=a0r l n:=wm rfl rfl
theorem a1X (g cs):a2S g [] cs=cs:=wm rfl rfl
theorem a1A (g v vs c cs):a2S g (v::vs) (c::cs)=(v,g)::a2S g vs cs:=wm rfl rfl
theorem a3p (g vs c cs):a2c g vs (c::cs) 0=some (a2S g vs (c::cs)):=wm rfl rfl
theorem b2f (g:Nat)(vs:List Value)(c:Value×Nat)(cs:List (Value×Nat))(n:Nat):a2c g vs (c::cs) (n+1)=match a2c g vs cs n with|some cs'=>some (c::cs')|none=>none:=wm rfl rfl
def l9 {α:Type}(r:Option (α×S))(Q:α->S->Prop):Prop:=∃a s,r=some (a,s)/\Q a s
theorem l9.mono {α}{r:Option (α×S)}{Q R}(h:l9 r Q)(k:∀a s,Q a s->R a s):l9 r R:=let⟨a,s,e,q⟩:=h;⟨a,s,e,k a s q⟩
theorem l9.pure {α}{a:α}{s Q}(h:Q a s):l9 (M.pure a s) Q:=⟨a,s,rfl,h⟩
theorem l9.some {α}{a:α}{s Q}(h:Q a s):l9 (Option.some (a,s)) Q:=⟨a,s,rfl,h⟩
theorem l9.bind {α β m}{f:α->M β}{s P Q}(h:l9 (m s) P)(k:∀a s',P a s'->l9 (f a s') Q):l9 (M.bind m f s) Q:=by obtain⟨a,s',e,p⟩:=h;show l9 (match m s with|none=>none|Option.some x=>f x.1 x.2) Q;rw[e];grind
abbrev a0A:=List Nat×List Nat
section
variable (p:Program)(T:Tab)
def c4Z (v:Value)(vs:List Value)(k:Nat->List Value->M Value):M Value:=match v with
 |.func fn first captured=>match fn with|.func g=>k g (I9 first.toList (I9 vs captured.toList))|_=>M.fail
 |_=>M.fail
def b1C (call:Nat->List Value->M Value)(ops:List Oper)(fr:List Value)(o:Oper):M (Value×a0A):=bcase (a1T ops fr o) (M.foot (Z8 p T call fr o.op)) (M.pure (undef,([],[])))
def a2Z {β:Type}(call:Nat->List Value->M Value)(ops os:List Oper):List Value->List a0A->(List Value->List a0A->M β)->M β:=List.rec (motive:=λ_=>List Value->List a0A->(List Value->List a0A->M β)->M β) (λfr acc k=>k fr acc) (λo _ ih fr acc k=>M.bind (b1C p T call ops fr o) λx=>ih (Q8 fr o x.1) (I9 acc [x.2]) k) os
theorem d1P {β}(call ops):∀(os) (fr) (acc) (k:List Value->List a0A->M β),M.bind (a2t p T call ops os fr) (λy=>k y.1 (acc++y.2))=a2Z p T call ops os fr acc k:=by
 intro os;induction os with
  |nil=>intro fr acc k;show M.bind (M.pure (fr,[])) _=k fr acc;rw[V.e7i,wR]|cons o os ih=>
   intro fr acc k;show M.bind (match a1T ops fr o with|true=>M.bind (M.foot (Z8 p T call fr o.op)) λx=>a7F x.1 λv=>M.bind (a2t p T call ops os (Q8 fr o v)) λy=>M.pure (y.1,x.2::y.2)|false=>M.bind (a2t p T call ops os (Q8 fr o undef)) λy=>M.pure (y.1,([],[])::y.2)) _=M.bind (b1C p T call ops fr o) λx=>a2Z p T call ops os (Q8 fr o x.1) (I9 acc [x.2]) k;have key:∀(v:Value) (F:a0A),M.bind (M.bind (a2t p T call ops os (Q8 fr o v)) λy=>M.pure (y.1,F::y.2)) (λy=>k y.1 (acc++y.2))=a2Z p T call ops os (Q8 fr o v) (I9 acc [F]) k:=by grind[a1Z,V7,V.e7i]
   grind[b1C,G6,a1Z,a8m,G5,V.e7i]
theorem d2R (call ops n U vs W):b7j p T call ops n U vs W=a2Z p T (a1M call) ops ops (M6 U vs (a0t n)) [] λfr F=>M.guard (a2P ops (a4x ops F) [] [] 0) (M.pure (.normal,P5 fr W)):=by rw[<-d1P];rfl
end
def b6h (ops:List Oper)(pj:List Nat)(j:Nat)(y:Oper)(xs:List Oper):Nat->Option (List (Nat×Nat)):=List.rec (motive:=λ_=>Nat->Option (List (Nat×Nat))) (λ_=>some []) (λx _ ih i=>match a2D i pj with
 |true=>ih (i+1)|false=>match Y3 (a2B x) (a3m ops y)&&Y3 (a2B x) (a2B y)&&Y3 (a2B y) (a3m ops x)with
  |true=>match ih (i+1)with|some L=>some ((i,j)::L)|none=>none
  |false=>none) xs
def b6H (ops ys:List Oper):List Oper->List (List Nat)->Nat->Option (List (Nat×Nat)):=List.rec (motive:=λ_=>List Oper->List (List Nat)->Nat->Option (List (Nat×Nat))) (λ_ _ _=>some []) (λy _ ih xs ps n=>match a7v n y.after.toList with
 |true=>match b6h ops (a4C (a5R ps) y.after.toList) n y xs 0 with
  |some L=>match ih (I9 xs [y]) (I9 ps [a4C (a5R ps) y.after.toList]) (n+1)with|some L'=>some (I9 L L')|none=>none
  |none=>none
 |false=>none) ys
def a2p (x y:a0A):Bool:=Y3 x.2 y.1&&Y3 x.2 y.2&&Y3 y.2 x.1
def a0v (L:List (Nat×Nat))(F:List a0A):Bool:=M0 (λij=>match a0r F ij.1 with
 |some x=>match a0r F ij.2 with|some y=>a2p x y|none=>false
 |none=>false) L
theorem d1F {ops pj j}{y:Oper×a0A}{F}(hy:F[j]?=some y.2):∀(xs:List (Oper×a0A)) (i) (L),b6h ops pj j y.1 (xs.map (·.1)) i=some L->(∀(k) (x),xs[k]?=some x->F[i+k]?=some x.2)->a7q ops pj y xs i=a0v L F:=by
 intro xs;induction xs with
  |nil=>intro i L h _;cases h;rfl|cons x xs ih=>
   intro i L h hF;have h':(match a2D i pj with
    |true=>b6h ops pj j y.1 (xs.map (·.1)) (i+1)|false=>match Y3 (a2B x.1) (a3m ops y.1)&&Y3 (a2B x.1) (a2B y.1)&&Y3 (a2B y.1) (a3m ops x.1)with
     |true=>match b6h ops pj j y.1 (xs.map (·.1)) (i+1)with|some L=>some ((i,j)::L)|none=>none
     |false=>none)=some L:=h;show(match a2D i pj||free2 ops x y with|true=>a7q ops pj y xs (i+1)|false=>false)=a0v L F;have hF':∀(k:Nat) (x:Oper×a0A),xs[k]?=some x->F[i+1+k]?=some x.2:=λk z hz=>by have:=hF (k+1) z zu;rw[show i+1+k=i+(k+1) by omega];exact this
   cases hm:a2D i pj with
    |true=>rw[hm]at h';rw[vP];grind|false=>
     rw[hm]at h';simp only at h';split at h';rename_i hst;split at h';rename_i L' hL';cases h';have hx:=hF 0 x rfl;rw[vZ]at hx;have e1:a0v ((i,j)::L') F=(a2p x.2 y.2&&a0v L' F):=by grind[a0v,X7,a2E]
     have e2:free2 ops x y=a2p x.2 y.2:=by simp_all[free2,a2p]
     rw[e1,e2,wF,<-ih (i+1) L' hL' hF'];cases a2p x.2 y.2<;>rfl;cases h';cases h'
theorem c9t (L L' F):a0v (I9 L L') F=(a0v L F&&a0v L' F):=by grind[a0v,V7,c5r]
theorem d6M {ops F}:∀(ys xs:List (Oper×a0A)) (ps) (n) (L),xs.length=n->(∀(k:Nat) (x),(xs++ys)[k]?=some x->F[k]?=some x.2)->b6H ops (ys.map (·.1)) (xs.map (·.1)) ps n=some L->a2P ops ys xs ps n=a0v L F:=by
 intro ys;induction ys with
  |nil=>intro xs ps n L _ _ h;cases h;rfl|cons y ys ih=>
   intro xs ps n L hn hF h;have h':(match a7v n y.1.after.toList with
    |true=>match b6h ops (a4C (a5R ps) y.1.after.toList) n y.1 (xs.map (·.1)) 0 with
     |some L=>match b6H ops (ys.map (·.1)) (I9 (xs.map (·.1)) [y.1]) (I9 ps [a4C (a5R ps) y.1.after.toList]) (n+1)with|some L'=>some (I9 L L')|none=>none
     |none=>none
    |false=>none)=some L:=h;show(match a7v n y.1.after.toList&&a7q ops (a4C (a5R ps) y.1.after.toList) y xs 0 with|true=>a2P ops ys (I9 xs [y]) (I9 ps [a4C (a5R ps) y.1.after.toList]) (n+1)|false=>false)=_;split at h';rename_i he;split at h';rename_i L1 h1;split at h';rename_i L2 h2;cases h';have hy:F[n]?=some y.2:=hF n y (by rw[wH zy,hn];simp);have hp:=d1F hy xs 0 L1 h1 (λk x hx=>by rw[wM];grind);rw[he,hp,c9t,<-ih (I9 xs [y]) (I9 ps [a4C (a5R ps) y.1.after.toList]) (n+1) L2 (by rw[V7];simp[hn]) (λk x hx=>hF k x (by rw[V7]at hx;grind)) (by rw[V7 xs,ut];rw[V7 (xs.map _)]at h2;exact h2),vE];cases a0v L1 F<;>rfl;cases h';cases h';cases h'
theorem c8m {α β}:∀(l:List α) (m:List β),F9 m=F9 l->(a4x l m).map (·.1)=l/\(∀(k:Nat) x,(a4x l m)[k]?=some x->m[k]?=some x.2):=by intro l;induction l with|nil=>intro m _;exact⟨rfl,λk x h=>by simp[a4x]at h⟩|cons a l ih=>intro m hm;cases m with|nil=>simp[J2]at hm|cons b m=>obtain⟨h1,h2⟩:=ih m (by grind[J2]);refine⟨by simp_all[a4x],λk x hx=>?_⟩;cases k with|zero=>have:some (a,b)=some x:=hx;grind|succ k=>exact h2 k x hx
theorem d6k {ops L}(h:b6H ops ops [] [] 0=some L){F:List a0A}(hl:F9 F=F9 ops):a2P ops (a4x ops F) [] [] 0=a0v L F:=by obtain⟨h1,h2⟩:=c8m ops F hl;exact d6M (a4x ops F) [] [] 0 L rfl (λk x hx=>h2 k x hx) (by rw[h1];exact h)
end Go.V
end
