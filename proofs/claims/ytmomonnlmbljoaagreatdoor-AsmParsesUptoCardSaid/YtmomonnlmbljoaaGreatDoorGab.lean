import Derived.Test.YtmomonnlmbljoaaGreatDoorGaa
set_option maxRecDepth 1000000
set_option maxHeartbeats 4000000
set_option linter.unusedVariables false
set_option linter.unusedSimpArgs false
section
namespace Go.V
open Go.RowKit (Below)
structure Loc where
 blk:Nat
 lo:Nat
 at_:Nat
 sz:Nat
 own:Bool
abbrev KM:=Nat->Nat->Option Loc
def KM.le (K K':KM):Prop:=∀b g l,K b g=some l->K' b g=some l
theorem KM.le_refl (K:KM):K.le K:=λ_ _ _ h=>h
theorem KM.le_trans {K K' K'':KM}(h:K.le K')(h':K'.le K''):K.le K'':=λb g l e=>h' b g l (h b g l e)
inductive VR (K:KM):Value→Value→Prop
 | plain {v:Value}:plain v=true→VR K v v
 | ptr {b g off:Nat} {l:Loc}:K b g=some l→l.lo≤off→VR K (.pointer (some ⟨l.blk,l.at_+(off - l.lo),none⟩)) (.pointer (some ⟨b,off,some g⟩))
 | slice {b g off len cap es:Nat} {l:Loc} {a':Addr}:K b g=some l→l.lo≤off→0<es→len≤cap→(cap=0∨a'.spot=none) →
  (cap=0∨(a'.block=l.blk∧a'.off=l.at_+(off - l.lo)∧(l.own=true→a'.off+cap * es≤l.sz))) →
  VR K (.slice (some a') len cap) (.slice (some ⟨b,off,some g⟩) len es)
 | map {b:Nat} {l:Loc}:K b 0=some l→VR K (.map (some l.blk)) (.map (some b))
 | agg {cs' cs:Array Value}:cs'.toList.length=cs.toList.length→(∀ (i:Nat) (v' v:Value),cs'.toList[i]?=some v'→cs.toList[i]?=some v→VR K v' v)→VR K (.agg cs') (.agg cs)
 | tuple {cs' cs:Array Value}:cs'.toList.length=cs.toList.length→(∀ (i:Nat) (v' v:Value),cs'.toList[i]?=some v'→cs.toList[i]?=some v→VR K v' v)→VR K (.tuple cs') (.tuple cs)
 | func {fn:Fn} {a' a b' b:Array Value}:a'.toList.length=a.toList.length→(∀ (i:Nat) (v' v:Value),a'.toList[i]?=some v'→a.toList[i]?=some v→VR K v' v) →
  b'.toList.length=b.toList.length→(∀ (i:Nat) (v' v:Value),b'.toList[i]?=some v'→b.toList[i]?=some v→VR K v' v)→VR K (.func fn a' b') (.func fn a b)
 | iface {t:TypeId} {v' v:Value}:VR K v' v→VR K (.iface t v') (.iface t v)
structure VRL (K:KM) (l' l:List Value):Prop where
 len:l'.length=l.length
 at_:∀ (i:Nat) (v' v:Value),l'[i]?=some v'→l[i]?=some v→VR K v' v
theorem VR.mono {K K'}(h:K.le K'){v' v}(r:VR K v' v):VR K' v' v:=by induction r with|plain h=>exact .plain h|ptr hk hl=>exact .ptr (h _ _ _ hk) hl|slice hk h1 h2 h3 h4 h5=>exact .slice (h _ _ _ hk) h1 h2 h3 h4 h5|map hk=>exact .map (h _ _ _ hk)|agg hl _ ih=>exact .agg hl ih|tuple hl _ ih=>exact .tuple hl ih|func hl _ hl' _ ih ih'=>exact .func hl ih hl' ih'|iface _ ih=>exact .iface ih
theorem VRL.mono {K K'}(h:K.le K'){l' l}(r:VRL K l' l):VRL K' l' l:=⟨r.len,λi v' v e e'=>(r.at_ i v' v e e').mono h⟩
theorem VRL.nil (K):VRL K [] []:=⟨rfl,λi v' v h=>by simp at h⟩
theorem VRL.cons {K v' v l' l}(h:VR K v' v)(r:VRL K l' l):VRL K (v'::l') (v::l):=⟨by simp[r.len],λi x' x e e'=>by cases i with|zero=>simp_all|succ i=>exact r.at_ i x' x zu zu⟩
theorem VRL.head {K v' v l' l}(r:VRL K (v'::l') (v::l)):VR K v' v:=r.at_ 0 v' v rfl rfl
theorem VRL.tail {K v' v l' l}(r:VRL K (v'::l') (v::l)):VRL K l' l:=⟨by simpa using r.len,λi x' x e e'=>r.at_ (i+1) x' x zu zu⟩
theorem VRL.append {K a' a b' b}(h:VRL K a' a)(r:VRL K b' b):VRL K (a'++b') (a++b):=⟨by simp[h.len,r.len],λi v' v e e'=>by by_cases hi:i<a.length;rw[vw (by rw[h.len];exact hi)]at e;rw[vw hi]at e';exact h.at_ i v' v e e';rw[wH (by rw[h.len];omega)]at e;rw[wH zy]at e';rw[h.len]at e;exact r.at_ _ v' v e e'⟩
theorem VRL.take {K a' a}(h:VRL K a' a)(n):VRL K (a'.take n) (a.take n):=⟨by simp[h.len],λi v' v e e'=>by rw[uP]at e e';split at e;rename_i hi;rw[vX hi]at e';exact h.at_ i v' v e e';cases e⟩
theorem VRL.drop {K a' a}(h:VRL K a' a)(n):VRL K (a'.drop n) (a.drop n):=⟨by simp[h.len],λi v' v e e'=>by rw[uW]at e e';exact h.at_ _ v' v e e'⟩
theorem VRL.refl_plain {K}(l)(h:∀v∈l,V.plain v=true):VRL K l l:=⟨rfl,λi v' v e e'=>by rw[e]at e';cases e';exact .plain (h _ (wG e))⟩
theorem VR.undef (K:KM):VR K undef undef:=.tuple rfl λi v' v h=>by simp at h
theorem a4f (l i):C8 l i=(l[i]?).getD Go.undef:=by induction l generalizing i with|nil=>rfl|cons v l ih=>cases i with|zero=>rfl|succ i=>exact ih i
theorem VRL.lget {K:KM}{l' l:List Value}(h:VRL K l' l)(i:Nat):VR K (C8 l' i) (C8 l i):=by
 rw[a4f,a4f];by_cases hi:i<l.length;have hi':i<l'.length:=by rw[h.len];exact hi
 rw[wz hi,wz hi'];exact h.at_ i _ _ (wz hi') (wz hi);have e1:l[i]?=none:=wT zy;have e2:l'[i]?=none:=wT (by rw[h.len];omega);rw[e1,e2];exact VR.undef K
theorem a9N (l i x):a4P l i x=l.set i x:=by induction l generalizing i with|nil=>simp[a4P]|cons v l ih=>cases i with|zero=>rfl|succ i=>simp_all[a4P]
theorem VRL.lset {K:KM}{l' l:List Value}(h:VRL K l' l)(i:Nat){x' x:Value}(hx:VR K x' x):VRL K (l'.set i x') (a4P l i x):=by rw[a9N];refine⟨by simp[h.len],λj v' v e e'=>?_⟩;rw[rz]at e e';split at e;simp_all;rename_i hij;rw[vg hij]at e';exact h.at_ j v' v e e'
theorem VR.oneCell {K:KM}{v' v:Value}(h:VR K v' v)(h1:P8 v=true):v'.oneCell'=true:=by
 cases h with
  |plain hp=>cases v'<;>first|rfl|exact absurd h1 (by simp[V.P8])
  |agg _ _=>grind[V.P8]|tuple _ _=>grind[V.P8]|_=>rfl
structure MR (K:KM) (es':List MapEntry) (es:List (Value×Value)):Prop where
 len:es'.length=es.length
 key:∀ (i:Nat) (e':MapEntry) (e:Value×Value),es'[i]?=some e'→es[i]?=some e→e'.key=e.1∧VR K e'.val e.2
structure Base where
 w:World
 R:Nat→Prop
structure Sim (B0:Nat) (w0:Base) (K:KM) (h:Trie VObj) (w:World):Prop where
 size0:B0≤w0.w.heap.size∧∀ k,B0≤k→w0.R k
 below:Below B0 w0.w w
 dom':∀ b g l,K b g=some l→l.blk<w.heap.size∧w0.R l.blk
 dom2:∀ b g l,K b g=some l→∃ o,h.get b=some o
 own:∀ b g l,K b g=some l→l.own=true→B0≤l.blk
 apart:∀ b g l b' g' l',K b g=some l→K b' g'=some l'→b≠b'→l.own=true→l.blk≠l'.blk
 same:∀ b g l g' l',K b g=some l→K b g'=some l'→l.own=l'.own∧(l.blk=l'.blk→l.at_+l'.lo=l'.at_+l.lo)
 room:∀ b g l cs cur ro,K b g=some l→l.own=true→h.get b=some (.cells cs cur ro)→∃ c e fz,w.heap[l.blk]?=some (.cells c e fz)∧c.size=l.sz∧∀ o,o<l.sz→w.frozen? ⟨l.blk,o,none⟩=false
 gens:∀ b cs cur ro,h.get b=some (.cells cs cur ro)→(∀ g l,K b g=some l→g≤cur∧(ro=false→l.own=true))∧(∀ g,g≤cur→∃ l,K b g=some l)∧∀ c,c∈cs→c.2≤cur
 cells:∀ b cs cur ro g l,h.get b=some (.cells cs cur ro)→K b g=some l→∀ (off:Nat) v st,cs[off]?=some (v,st)→st≤g→l.lo≤off →
  ∃ v',w.cell? ⟨l.blk,l.at_+(off - l.lo),none⟩=some v'∧VR K v' v
 map:∀ b es,h.get b=some (.map es)→∃ l es' clock,K b 0=some l∧l.own=true∧w.heap[l.blk]?=some (.map es' clock)∧MR K es'.toList es
 siter:∀ b s pos,h.get b=some (.siter s pos)→∃ l,K b 0=some l∧l.own=true∧l.lo=0∧l.at_=0∧w.heap[l.blk]?=some (.stringIter s pos)
 gen0:∀ b g l,K b g=some l→(∀ cs cur ro,h.get b≠some (.cells cs cur ro))→g=0
theorem Sim.dom {B0 w0 K h w}(S:Sim B0 w0 K h w):∀b g l,K b g=some l->l.blk<w.heap.size:=λb g l q=>(S.dom' b g l q).1
theorem a6H (g):∀(cs) (n) (vs),A7 g cs n=some vs->vs.length=n/\∀i,i<n->∃v st,cs[i]?=some (v,st)/\st<=g/\vs[i]?=some v:=by
 intro cs;induction cs with
  |nil=>intro n vs h;cases n with|zero=>cases h;simp|succ n=>cases h
  |cons c cs ih=>
   intro n vs h;cases n with
    |zero=>cases h;simp|succ n=>
     have h':(match Nat.ble c.2 g with|true=>(match A7 g cs n with|some vs=>some (c.1::vs)|none=>none)|false=>none)=some vs:=h;split at h';rename_i hb;split at h';rename_i vs' hvs;cases h';obtain⟨h1,h2⟩:=ih n vs' hvs;refine⟨by simp[h1],λi hi=>?_⟩;cases i with|zero=>exact⟨c.1,c.2,rfl,wJ hb,rfl⟩|succ i=>simp_all
     cases h';cases h'
theorem a8Z (b o n):(⟨b,o,none⟩:Addr).add n=⟨b,o+n,none⟩:=by grind[Addr.add]
theorem a9d {a n s s' vs}(h:loadN a n s=some (vs,s')):∃g cs cur ro,a.spot=some g/\s.h.get a.block=some (.cells cs cur ro)/\A7 g (cs.drop a.off) n=some vs/\s'.c=s.c/\s'.h=s.h:=by unfold loadN at h;cases hg:a.spot with|none=>rw[hg]at h;cases h|some g=>rw[hg]at h;simp only[M.obind,M.bind,rd]at h;cases hb:Nat.blt a.block s.c with|false=>rw[hb]at h;cases h|true=>rw[hb]at h;cases ho:s.h.get a.block with|none=>rw[ho]at h;cases h|some o=>rw[ho]at h;cases o with|cells cs cur ro=>simp only[a7t,M.lift,a0O]at h;grind|map es=>cases h|siter x y=>cases h
theorem a8S {B0 w0 K h w}(S:Sim B0 w0 K h w){b g off n l cs cur ro vs}(hk:K b g=some l)(hlo:l.lo<=off)(ho:h.get b=some (.cells cs cur ro))(ht:A7 g (cs.drop off) n=some vs):∃vs',VRL K vs' vs/\vs.length=n/\∀(j) v',vs'[j]?=some v'->w.cell? ⟨l.blk,l.at_+(off-l.lo)+j,none⟩=some v':=by
 obtain⟨h1,h2⟩:=a6H g _ n vs ht;have h3:∀i,∃v',i<n->w.cell? ⟨l.blk,l.at_+(off-l.lo)+i,none⟩=some v'/\∀v,vs[i]?=some v->VR K v' v:=by intro i;by_cases hi:i<n;obtain⟨v,st,e1,e2,e3⟩:=h2 i hi;rw[uW]at e1;obtain⟨v',c1,c2⟩:=S.cells b cs cur ro g l ho hk (off+i) v st e1 e2 zy;grind;exact⟨undef,λh=>absurd h hi⟩
 refine⟨(List.range n).map λi=>Classical.choose (h3 i),⟨by simp[h1],λi v' v e e'=>?_⟩,h1,λj v' e=>?_⟩;have hi:i<n:=by have:=(xC.1 e).1;simp_all
 rw[wE,List.getElem?_range hi]at e;grind;grind
theorem b2Q {P B0 w0 K w a n s s' vs}(h:loadN a n s=some (vs,s'))(S:Sim B0 w0 K s.h w){a'}(r:VR K (.pointer (some a')) (.pointer (some a))):∃vs',(loadCells a' n).run P w=.ok vs'.toArray w/\VRL K vs' vs/\vs'.length=n/\s'.c=s.c/\s'.h=s.h:=by
 obtain⟨g,cs,cur,ro,e1,e2,e3,e4,e5⟩:=a9d h;generalize hv:Value.pointer (some a)=v at r;generalize hv':Value.pointer (some a')=v' at r;cases r with
  |plain hp=>grind[V.plain]|ptr hk hlo=>
   cases hv;cases hv';cases e1;obtain⟨vs',c1,c2,c3⟩:=a8S S hk hlo e2 e3;have hn:vs'.length=n:=by rw[c1.len,c2]
   grind[run_loadCells_list,a8Z]|_=>cases hv
structure Upd (w w':World) (b o:Nat) (vs:List Value):Prop where
 os:w'.os=w.os
 tape:w'.tape=w.tape
 output:w'.output=w.output
 size:w'.heap.size=w.heap.size
 other:∀ k,k≠b→w'.heap[k]?=w.heap[k]?
 blk:∀ c e fz,w.heap[b]?=some (.cells c e fz)→∃ c',w'.heap[b]?=some (.cells c' e fz)∧c'.size=c.size ∧
  ∀ j,c'[j]?=if o≤j∧j<o+vs.length then (if j<c.size then vs[j - o]? else none) else c[j]?
theorem Upd.nil (w b o):Upd w w b o []:=⟨rfl,rfl,rfl,rfl,λ_ _=>rfl,λc e fz h=>⟨c,h,rfl,λj=>by rw[vg zn]⟩⟩
theorem b1F (P b):∀(vs) (o i) (w),(∀j,j<vs.length->(w.cell? ⟨b,o+i+j,none⟩).isSome=true)->(∀j,j<vs.length->w.frozen? ⟨b,o+i+j,none⟩=false)->(∀v∈vs,v.oneCell'=true)->∃w',(storeCells ⟨b,o,none⟩ vs i).run P w=.ok () w'/\Upd w w' b (o+i) vs
 |[],o,i,w,_,_,_=>⟨w,rfl,Upd.nil w b _⟩|v::vs,o,i,w,hc,hf,h1=>by
  have c0:=hc 0 zn;have f0:=hf 0 zn;simp only[vZ]at c0 f0;obtain⟨u,hu⟩:=sH.1 c0;have hne:∀j,(⟨b,o+i,none⟩:Addr)≠⟨b,o+i+(j+1),none⟩:=λj h=>by have:=wO Addr.off h;simp at this
  obtain⟨w',r1,r2⟩:=b1F P b vs o (i+1) (w.setCell ⟨b,o+i,none⟩ v) (λj hj=>by have:=hc (j+1) zu;rw[show o+(i+1)+j=o+i+(j+1) by omega,qL _ _ _ _ (hne j)];exact this) (λj hj=>by have:=hf (j+1) zu;rw[show o+(i+1)+j=o+i+(j+1) by omega,World.frozen?_setCell];exact this) (λx hx=>h1 x (vW _ hx));refine⟨w',?_,?_⟩;simp_all[storeCells,a8Z,run_store];refine⟨r2.os,r2.tape,r2.output,by rw[r2.size];simp,?_,?_⟩;intro k hk;rw[r2.other k hk,RowKit.Below.heap_setCell _ _ _ _ hk];intro c e fz hb;have hb':(w.setCell ⟨b,o+i,none⟩ v).heap[b]?=some (.cells (c.setIfInBounds (o+i) v) e fz):=by simp[World.setCell,sW,hb]
  obtain⟨c',g1,g2,g3⟩:=r2.blk _ e fz hb';grind
theorem Upd.cell_other {w w' b o vs}(u:Upd w w' b o vs){c e fz}(hw:w.heap[b]?=some (.cells c e fz))(a)(h:a.block≠b\/¬(o<=a.off/\a.off<o+vs.length)):w'.cell? a=w.cell? a:=by by_cases hb:a.block=b;rcases h with h|h;omega;obtain⟨c',g1,g2,g3⟩:=u.blk c e fz hw;simp_all[World.cell?,vg];exact uK (w:=w) (u.other _ hb)
theorem Upd.cell_new {w w' b o vs}(u:Upd w w' b o vs){c e fz}(hw:w.heap[b]?=some (.cells c e fz))(hs:o+vs.length<=c.size)(j)(v)(hj:vs[j]?=some v):w'.cell? ⟨b,o+j,none⟩=some v:=by
 obtain⟨c',g1,g2,g3⟩:=u.blk c e fz hw;have hlt:j<vs.length:=(xC.1 hj).1;have e1:c'[o+j]?=vs[j]?:=by rw[g3 (o+j),vX zy,vX zy,show o+j-o=j by omega]
 simp only[World.cell?,g1];rw[vg zn,e1,hj]
theorem Upd.frozen {w w' b o vs}(u:Upd w w' b o vs){c e fz}(hw:w.heap[b]?=some (.cells c e fz))(a):w'.frozen? a=w.frozen? a:=by by_cases hb:a.block=b;obtain⟨c',g1,_,_⟩:=u.blk c e fz hw;grind[World.frozen?];exact rZ (w:=w) (u.other _ hb)
theorem Upd.below {w w' b o vs}(u:Upd w w' b o vs){B}(hB:B<=b):Below B w w':=⟨u.os,u.tape,u.output,by rw[u.size];omega,λk hk=>u.other k zy⟩
theorem b1t (g):∀(vs) (cs) (j),(a2S g vs cs)[j]?=if j<vs.length then(vs[j]?).map (λv=>(v,g))else cs[j]?:=by intro vs;induction vs with|nil=>intro cs j;rfl|cons v vs ih=>intro cs j;cases cs with|nil=>show((v,g)::a2S g vs [])[j]?=_;grind|cons c cs=>show((v,g)::a2S g vs cs)[j]?=_;grind
theorem b9e (g vs):∀(cs) (n) (cs'),a2c g vs cs n=some cs'->∀(j),cs'[j]?=if n<=j/\j<n+vs.length then(vs[j-n]?).map (λv=>(v,g))else cs[j]?:=by
 intro cs;induction cs with
  |nil=>
   intro n cs' h j;cases n with
    |zero=>
     have:cs'=a2S g vs []:=by cases h;rfl
     rw[this,b1t];by_cases hj:j<vs.length<;>simp[hj]|succ n=>cases h
  |cons c cs ih=>
   intro n cs' h j;cases n with
    |zero=>
     have:cs'=a2S g vs (c::cs):=by cases h;rfl
     rw[this,b1t];by_cases hj:j<vs.length<;>simp[hj]|succ n=>have h':(match a2c g vs cs n with|some cs'=>some (c::cs')|none=>none)=some cs':=h;grind
theorem b5I {i o s s' u}(h:wr i o s=some (u,s')):(∃o',s.h.get i=some o')/\s'.c=s.c/\∀j,s'.h.get j=if j=i then some o else s.h.get j:=by unfold wr at h;split at h;split at h;rename_i o' ho;rw[Trie.putK_eq]at h;cases h;exact⟨⟨o',ho⟩,rfl,λj=>Trie.get_put _ _ _ _ (wu _) j⟩;cases h;cases h
theorem Upd.room {w w' b o vs}(u:Upd w w' b o vs){k n}(h:∃c e fz,w.heap[k]?=some (.cells c e fz)/\c.size=n/\∀o,o<n->w.frozen? ⟨k,o,none⟩=false){c0}{e0}{fz0}(hw:w.heap[b]?=some (.cells c0 e0 fz0)):∃c e fz,w'.heap[k]?=some (.cells c e fz)/\c.size=n/\∀o,o<n->w'.frozen? ⟨k,o,none⟩=false:=by obtain⟨c,e,fz,h1,h2,h3⟩:=h;by_cases hk:k=b;subst hk;obtain⟨c',g1,g2,_⟩:=u.blk c e fz h1;exact⟨c',e,fz,g1,zy,λo ho=>by rw[u.frozen h1];grind⟩;exact⟨c,e,fz,by rw[u.other k hk];exact h1,h2,λo ho=>by rw[u.frozen hw];grind⟩
theorem d0l {B0 w0 K h h' w w'}(S:Sim B0 w0 K h w){b cur off l cs cs' vs vs'}(hk:K b cur=some l)(hlo:l.lo<=off)(ho:h.get b=some (.cells cs cur false))(hlen:off+vs.length<=cs.length)(hpos:0<vs.length)(hcs:∀(j),cs'[j]?=if off<=j/\j<off+vs.length then(vs[j-off]?).map (λv=>(v,cur))else cs[j]?)(hh:∀j,h'.get j=if j=b then some (.cells cs' cur false)else h.get j)(hv:VRL K vs' vs)(u:Upd w w' l.blk (l.at_+(off-l.lo)) vs'):Sim B0 w0 K h' w':=by
 obtain⟨hg1,hg2,hg3⟩:=S.gens b cs cur false ho;have hown:l.own=true:=(hg1 cur l hk).2 rfl;obtain⟨c,e,fz,hc1,hc2,hc3⟩:=S.room b cur l cs cur false hk hown ho;have hsz:l.at_+(off-l.lo)+vs'.length<=c.size:=by have h1:off+vs.length-1<cs.length:=zy;obtain⟨v',q1,_⟩:=S.cells b cs cur false cur l ho hk (off+vs.length-1) cs[off+vs.length-1].1 cs[off+vs.length-1].2 (wz h1) (hg3 _ (vB h1)) zy;simp only[World.cell?,hc1]at q1;have:=(sM.1 (by simpa using q1)).1;rw[hv.len];omega
 have hb:h'.get b=some (.cells cs' cur false):=yD;have hnb:∀j,j≠b->h'.get j=h.get j:=λj hj=>xQ;refine⟨S.size0,S.below.trans (u.below (S.own b cur l hk hown)),λb2 g2 l2 q=>by rw[u.size];exact S.dom' b2 g2 l2 q,λb2 g2 l2 q=>by by_cases hx:b2=b;exact⟨_,by rw[hx];exact hb⟩;rw[hnb b2 hx];exact S.dom2 b2 g2 l2 q,S.own,S.apart,S.same,?_,?_,?_,?_,?_,(λb2 g2 l2 q hnc=>by by_cases hx:b2=b;simp_all;exact S.gen0 b2 g2 l2 q (λcs cur ro e=>hnc cs cur ro (by rw[hnb b2 hx];exact e)))⟩;intro b2 g2 l2 cs2 cur2 ro2 q1 q2 q3;by_cases hb2:b2=b;subst hb2;exact u.room (S.room b2 g2 l2 cs cur false q1 q2 ho) hc1;rw[hnb b2 hb2]at q3;exact u.room (S.room b2 g2 l2 cs2 cur2 ro2 q1 q2 q3) hc1;intro b2 cs2 cur2 ro2 q;by_cases hb2:b2=b;subst hb2;rw[hb]at q;cases q;refine⟨hg1,hg2,λx hx=>?_⟩;obtain⟨j,hj,hx⟩:=ql hx;have e1:=hcs j;rw[wz hj,hx]at e1;grind;rw[hnb b2 hb2]at q;exact S.gens b2 cs2 cur2 ro2 q;intro b2 cs2 cur2 ro2 g2 l2 q1 q2 off2 v st q3 q4 q5;by_cases hb2:b2=b;subst hb2;rw[hb]at q1;cases q1;have e1:=hcs off2;rw[q3]at e1;split at e1;rename_i hr;cases hvj:vs[off2-off]? with
  |none=>rw[hvj]at e1;cases e1|some y=>
   rw[hvj]at e1;cases e1;have hgc:g2=cur:=Nat.le_antisymm (hg1 g2 l2 q2).1 q4;subst hgc;rw[hk]at q2;cases q2;have hlt:off2-off<vs'.length:=by rw[hv.len];omega
   refine⟨vs'[off2-off],?_,hv.at_ _ _ _ (wz hlt) hvj⟩;rw[show l.at_+(off2-l.lo)=l.at_+(off-l.lo)+(off2-off) by omega];exact u.cell_new hc1 hsz _ _ (wz hlt)
 rename_i hr;obtain⟨v',r1,r2⟩:=S.cells b2 cs cur false g2 l2 ho q2 off2 v st e1.symm q4 q5;refine⟨v',?_,r2⟩;rw[u.cell_other hc1 _ ?_];exact r1;by_cases hbk:l2.blk=l.blk;right;have:=(S.same b2 cur l g2 l2 hk q2).2 hbk.symm;have hl:=hv.len;grind;simp_all;rw[hnb b2 hb2]at q1;obtain⟨v',r1,r2⟩:=S.cells b2 cs2 cur2 ro2 g2 l2 q1 q2 off2 v st q3 q4 q5;refine⟨v',?_,r2⟩;rw[u.cell_other hc1 _ (Or.inl (S.apart b cur l b2 g2 l2 hk q2 (qg hb2) hown).symm)];exact r1;intro b2 es q;have hb2:b2≠b:=λh=>by rw[h,hb]at q;cases q
 rw[hnb b2 hb2]at q;obtain⟨l2,es',clock,r1,r2,r3,r4⟩:=S.map b2 es q;exact⟨l2,es',clock,r1,r2,by rw[u.other _ (S.apart b cur l b2 0 l2 hk r1 (qg hb2) hown).symm];exact r3,r4⟩;intro b2 x pos q;have hb2:b2≠b:=λh=>by rw[h,hb]at q;cases q
 rw[hnb b2 hb2]at q;obtain⟨l2,r1,r2,r3,r4,r5⟩:=S.siter b2 x pos q;exact⟨l2,r1,r2,r3,r4,by rw[u.other _ (S.apart b cur l b2 0 l2 hk r1 (qg hb2) hown).symm];exact r5⟩
theorem c6Z {a vs s s' u}(h:storeN a vs s=some (u,s')):∃cur cs cs',a.spot=some cur/\s.h.get a.block=some (.cells cs cur false)/\(∀v∈vs,P8 v=true)/\a.off+vs.length<=cs.length/\a2c cur vs cs a.off=some cs'/\s'.c=s.c/\∀j,s'.h.get j=if j=a.block then some (.cells cs' cur false)else s.h.get j:=by
 unfold storeN at h;cases hg:a.spot with
  |none=>rw[hg]at h;cases h|some g=>
   rw[hg]at h;simp only[M.obind,M.bind,rd]at h;cases hb:Nat.blt a.block s.c with
    |false=>rw[hb]at h;cases h|true=>
     rw[hb]at h;cases ho:s.h.get a.block with
      |none=>rw[ho]at h;cases h|some o=>
       rw[ho]at h;cases o with
        |cells cs cur ro=>simp only[a7t]at h;cases hgd:(Nat.beq g cur&& !ro&&M0 P8 vs&&Nat.ble (a.off+F9 vs) (F9 cs))with|false=>rw[hgd]at h;cases h|true=>rw[hgd]at h;simp only[wh,si,R5,J2]at hgd;obtain⟨⟨⟨g1,g2⟩,g3⟩,g4⟩:=hgd;have g1:=wo g1;have g4:=wJ g4;subst g1 g2;simp only[M.guard]at h;cases hp:a2c g vs cs a.off with|none=>rw[hp]at h;cases h|some cs'=>rw[hp]at h;simp only[a0g]at h;obtain⟨_,w2,w3⟩:=b5I h;simp_all
        |map es=>cases h|siter x y=>cases h
theorem a8G {K a a'}(r:VR K (.pointer (some a')) (.pointer (some a))):∃g l,a.spot=some g/\K a.block g=some l/\l.lo<=a.off/\a'=⟨l.blk,l.at_+(a.off-l.lo),none⟩:=by generalize hv:Value.pointer (some a)=v at r;generalize hv':Value.pointer (some a')=v' at r;cases r with|plain hp=>grind[V.plain]|ptr hk hlo=>simp_all|_=>cases hv
theorem c6e {P B0 w0 K w a s s' vs vs' u}(h:storeN a vs s=some (u,s'))(S:Sim B0 w0 K s.h w)(hpos:0<vs.length){a'}(r:VR K (.pointer (some a')) (.pointer (some a)))(hv:VRL K vs' vs):∃w',(storeCells a' vs').run P w=.ok () w'/\Sim B0 w0 K s'.h w'/\s'.c=s.c:=by
 obtain⟨cur,cs,cs',e1,e2,e3,e4,e5,e6,e7⟩:=c6Z h;obtain⟨g,l,f1,f2,f3,rfl⟩:=a8G r;rw[e1]at f1;cases f1;obtain⟨hg1,hg2,hg3⟩:=S.gens _ cs cur false e2;have hown:l.own=true:=(hg1 cur l f2).2 rfl;obtain⟨c,e,fz,hc1,hc2,hc3⟩:=S.room _ cur l cs cur false f2 hown e2;have hcell:∀j,j<vs'.length->(w.cell? ⟨l.blk,l.at_+(a.off-l.lo)+0+j,none⟩).isSome=true:=by
  intro j hj;have h1:a.off+j<cs.length:=by rw[hv.len]at hj;omega
  obtain⟨v',q1,_⟩:=S.cells _ cs cur false cur l e2 f2 (a.off+j) cs[a.off+j].1 cs[a.off+j].2 (wz h1) (hg3 _ (vB h1)) zy;rw[show l.at_+(a.off-l.lo)+0+j=l.at_+(a.off+j-l.lo) by omega,q1];rfl
 obtain⟨w',r1,r2⟩:=b1F P l.blk vs' (l.at_+(a.off-l.lo)) 0 w hcell (λj hj=>by grind[World.cell?]) (λv hvm=>by
  obtain⟨j,hj,rfl⟩:=ql hvm;have hj2:j<vs.length:=by rw[<-hv.len];exact hj
  exact(hv.at_ j _ _ (wz hj) (wz hj2)).oneCell (e3 _ (vB hj2)));exact⟨w',r1,d0l S f2 f3 e2 e4 hpos (b9e cur vs cs a.off cs' e5) e7 hv r2,e6⟩
def KM.put (K:KM)(b g:Nat)(l:Loc):KM:=λb' g'=>if b'=b/\g'=g then some l else K b' g'
theorem KM.put_same (K:KM)(b g l):K.put b g l b g=some l:=by simp[KM.put]
theorem KM.put_other (K:KM){b g b' g'}(l)(h:¬(b'=b/\g'=g)):K.put b g l b' g'=K b' g':=by simp[KM.put,h]
theorem KM.le_put (K:KM){b g}(l)(h:K b g=none):K.le (K.put b g l):=λb' g' l' e=>by rw[KM.put_other K l (λ⟨h1,h2⟩=>by rw[h1,h2,h]at e;cases e)];exact e
theorem KM.put_inv {K:KM}{b g b' g' l l'}(h:K.put b g l b' g'=some l'):(b'=b/\g'=g/\l'=l)\/K b' g'=some l':=by unfold KM.put at h;grind
structure Grew (w w':World):Prop where
 os:w'.os=w.os
 tape:w'.tape=w.tape
 output:w'.output=w.output
 size:w.heap.size≤w'.heap.size
 old:∀ k,k<w.heap.size→w'.heap[k]?=w.heap[k]?
theorem Grew.refl (w):Grew w w:=⟨rfl,rfl,rfl,xD _,λ_ _=>rfl⟩
theorem Grew.trans {a b c}(h:Grew a b)(k:Grew b c):Grew a c:=⟨k.os.trans h.os,k.tape.trans h.tape,k.output.trans h.output,wL h.size k.size,λi hi=>(k.old i (wY hi h.size)).trans (h.old i hi)⟩
theorem Grew.alloc (w o):Grew w (w.alloc o):=⟨rfl,rfl,rfl,zn,λk hk=>RowKit.Below.heap_alloc w o k hk⟩
theorem Grew.drew (w):Grew w w.drew:=⟨rfl,rfl,rfl,xD _,λ_ _=>rfl⟩
theorem Grew.cell {w w'}(h:Grew w w'){a}(ha:a.block<w.heap.size):w'.cell? a=w.cell? a:=uK (w:=w) (h.old _ ha)
theorem Grew.frozen {w w'}(h:Grew w w'){a}(ha:a.block<w.heap.size):w'.frozen? a=w.frozen? a:=rZ (w:=w) (h.old _ ha)
theorem Grew.below {w w'}(h:Grew w w'){B}(hB:B<=w.heap.size):Below B w w':=⟨h.os,h.tape,h.output,h.size,λk hk=>h.old k zy⟩
theorem Sim.base {B0 w0 K h w}(S:Sim B0 w0 K h w):B0<=w.heap.size:=wL S.size0.1 S.below.size
theorem a5Y {B0 w0 K h w w'}(S:Sim B0 w0 K h w)(G:Grew w w'):Sim B0 w0 K h w':=by refine⟨S.size0,S.below.trans (G.below S.base),λb g l q=>⟨wY (S.dom b g l q) G.size,(S.dom' b g l q).2⟩,S.dom2,S.own,S.apart,S.same,?_,S.gens,?_,?_,?_,S.gen0⟩;intro b g l cs cur ro q1 q2 q3;obtain⟨c,e,fz,r1,r2,r3⟩:=S.room b g l cs cur ro q1 q2 q3;exact⟨c,e,fz,by rw[G.old _ (S.dom b g l q1)];exact r1,r2,λo ho=>by rw[G.frozen (S.dom b g l q1)];grind⟩;intro b cs cur ro g l q1 q2 off v st q3 q4 q5;obtain⟨v',r1,r2⟩:=S.cells b cs cur ro g l q1 q2 off v st q3 q4 q5;exact⟨v',by rw[G.cell (S.dom b g l q2)];exact r1,r2⟩;intro b es q;obtain⟨l,es',clock,r1,r2,r3,r4⟩:=S.map b es q;exact⟨l,es',clock,r1,r2,by rw[G.old _ (S.dom b 0 l r1)];exact r3,r4⟩;intro b x pos q;obtain⟨l,r1,r2,r3,r4,r5⟩:=S.siter b x pos q;exact⟨l,r1,r2,r3,r4,by rw[G.old _ (S.dom b 0 l r1)];exact r5⟩
theorem MR.mono {K K'}(h:K.le K'){a b}(r:MR K a b):MR K' a b:=⟨r.len,λi e' e q q'=>⟨(r.key i e' e q q').1,(r.key i e' e q q').2.mono h⟩⟩
theorem b7Y {B0 w0 K h h' w}(S:Sim B0 w0 K h w){c l o}(hK:∀g,K c g=none)(hh:∀j,h'.get j=if j=c then some o else h.get j)(hl:l.blk<w.heap.size)(hB:B0<=l.blk)(hown:l.own=true)(hfresh:∀b g l',K b g=some l'->l'.blk≠l.blk)(hcells:∀cs cur ro,o=.cells cs cur ro->cur=0/\ro=false/\(∀x∈cs,x.2=0)/\l.lo=0/\(∃a e fz,w.heap[l.blk]?=some (.cells a e fz)/\a.size=l.sz/\∀o,o<l.sz->w.frozen? ⟨l.blk,o,none⟩=false)/\∀(off) v st,cs[off]?=some (v,st)->∃v',w.cell? ⟨l.blk,l.at_+off,none⟩=some v'/\VR K v' v)(hmap:∀es,o=.map es->∃es' clock,w.heap[l.blk]?=some (.map es' clock)/\MR K es'.toList es)(hiter:∀x pos,o=.siter x pos->l.lo=0/\l.at_=0/\w.heap[l.blk]?=some (.stringIter x pos)):Sim B0 w0 (K.put c 0 l) h' w:=by
 have hle:K.le (K.put c 0 l):=KM.le_put K l (hK 0);have hc:h'.get c=some o:=yD;have hn:∀j,j≠c->h'.get j=h.get j:=λj hj=>xQ;have hput:∀b g l',(K.put c 0 l) b g=some l'->(b=c/\g=0/\l'=l)\/(b≠c/\K b g=some l'):=by grind[KM.put_inv]
 refine⟨S.size0,S.below,?_,?_,?_,?_,?_,?_,?_,?_,?_,?_,(λb g l1 q hnc=>by rcases hput b g l1 q with⟨_,e,_⟩|⟨n1,q1⟩;exact e;exact S.gen0 b g l1 q1 (λcs cur ro e=>hnc cs cur ro (by rw[hn b n1];exact e)))⟩;intro b g l' q;rcases hput b g l' q with⟨_,_,rfl⟩|⟨_,q⟩;exact⟨hl,S.size0.2 _ hB⟩;exact S.dom' b g l' q;intro b g l' q;rcases hput b g l' q with⟨e,_,_⟩|⟨hne,q⟩;simp_all;rw[hn b hne];exact S.dom2 b g l' q;intro b g l' q q2;rcases hput b g l' q with⟨_,_,rfl⟩|⟨_,q⟩;exact hB;exact S.own b g l' q q2;intro b g l1 b' g' l2 q1 q2 hne ho;rcases hput b g l1 q1 with⟨e1,_,e2⟩|⟨_,p1⟩<;>rcases hput b' g' l2 q2 with⟨e3,_,e4⟩|⟨_,p2⟩;omega;rw[e2];grind;rw[e4];grind;exact S.apart b g l1 b' g' l2 p1 p2 hne ho;intro b g l1 g' l2 q1 q2;rcases hput b g l1 q1 with⟨rfl,rfl,rfl⟩|⟨n1,q1⟩<;>rcases hput b g' l2 q2 with⟨e,rfl,rfl⟩|⟨n2,q2⟩;simp_all;omega;omega;exact S.same b g l1 g' l2 q1 q2;intro b g l1 cs cur ro q1 q2 q3;rcases hput b g l1 q1 with⟨rfl,rfl,rfl⟩|⟨n1,q1⟩;rw[hc]at q3;simp_all;rw[hn b n1]at q3;exact S.room b g l1 cs cur ro q1 q2 q3;intro b cs cur ro q;by_cases hb:b=c;subst hb;rw[hc]at q;cases q;obtain⟨rfl,rfl,e3,e4,e5,e6⟩:=hcells cs cur ro rfl;refine⟨λg l1 q1=>?_,λg hg=>⟨l,by rw[qb.1 hg];exact KM.put_same K b 0 l⟩,λx hx=>by rw[e3 x hx];omega⟩;grind;rw[hn b hb]at q;obtain⟨r1,r2,r3⟩:=S.gens b cs cur ro q;refine⟨λg l1 q1=>?_,λg hg=>let⟨l1,r⟩:=r2 g hg;⟨l1,hle _ _ _ r⟩,r3⟩;grind;intro b cs cur ro g l1 q1 q2 off v st q3 q4 q5;rcases hput b g l1 q2 with⟨rfl,rfl,rfl⟩|⟨n1,q2⟩;rw[hc]at q1;cases q1;obtain⟨rfl,rfl,e3,e4,e5,e6⟩:=hcells cs cur ro rfl;obtain⟨v',r1,r2⟩:=e6 off v st q3;exact⟨v',by rw[e4,sG];exact r1,r2.mono hle⟩;rw[hn b n1]at q1;obtain⟨v',r1,r2⟩:=S.cells b cs cur ro g l1 q1 q2 off v st q3 q4 q5;exact⟨v',r1,r2.mono hle⟩;intro b es q;by_cases hb:b=c;subst hb;rw[hc]at q;cases q;obtain⟨es',clock,r1,r2⟩:=hmap es rfl;exact⟨l,es',clock,KM.put_same K b 0 l,hown,r1,r2.mono hle⟩;rw[hn b hb]at q;obtain⟨l1,es',clock,r1,r2,r3,r4⟩:=S.map b es q;exact⟨l1,es',clock,hle _ _ _ r1,r2,r3,r4.mono hle⟩;intro b x pos q;by_cases hb:b=c;subst hb;rw[hc]at q;cases q;obtain⟨r1,r2,r3⟩:=hiter x pos rfl;grind[KM.put_same];rw[hn b hb]at q;obtain⟨l1,r1,r2,r3,r4,r5⟩:=S.siter b x pos q;exact⟨l1,hle _ _ _ r1,r2,r3,r4,r5⟩
structure Step (B0:Nat) (w0:Base) (K:KM) (s':S) (w':World) (K':KM):Prop where
 le:K.le K'
 far:∀ i g,s'.c≤i→K' i g=K i g
 sim:Sim B0 w0 K' s'.h w'
def a0z (_:KM)(s s':S):Prop:=∀i,s.c<=i->i<s'.c->s.h.get i=none
theorem Sim.none {B0:Nat}{w0:Base}{K:KM}{h:Trie VObj}{w:World}(S:Sim B0 w0 K h w){i:Nat}(hi:h.get i=none)(g:Nat):K i g=none:=by cases q:K i g with|none=>rfl|some l=>obtain⟨o,e⟩:=S.dom2 i g l q;rw[hi]at e;cases e
theorem b2T {vs s s' a}(h:a0b vs s=some (a,s')):(∀v∈vs,P8 v=true)/\a=⟨s.c,0,some 0⟩/\s'.c=s.c+1/\∀j,s'.h.get j=if j=s.c then some (.cells (vs.map λv=>(v,0)) 0 false)else s.h.get j:=by unfold a0b at h;cases hg:M0 P8 vs with|false=>rw[hg]at h;cases h|true=>rw[hg]at h;simp only[M.guard,a0g,a1z,M.bind,b2N,M.pure]at h;cases h;exact⟨(R5 _ _).1 hg,rfl,rfl,λj=>Trie.get_put _ _ _ _ (wu _) j⟩
theorem a5X {B0 w0 K w w' vs vs' s s' a}(h:a0b vs s=some (a,s'))(S:Sim B0 w0 K s.h w)(F:a0z K s s')(hv:VRL K vs' vs){arr}{e}{fz}(G:Grew w w')(hblk:w'.heap[w.heap.size]?=some (.cells arr e fz)){rest}(harr:arr.toList=vs'++rest)(hfz:∀o,o<arr.size->¬(fz.1<=o/\o<fz.2)):∃K',Step B0 w0 K s' w' K'/\K' s.c 0=some ⟨w.heap.size,0,0,arr.size,true⟩/\a=⟨s.c,0,some 0⟩:=by
 obtain⟨h1,h2,h3,h4⟩:=b2T h;have S':=a5Y S G;have hK:∀g,K s.c g=none:=S.none (F s.c (xD _) zy);have hlt:w.heap.size<w'.heap.size:=(sM.1 hblk).1;refine⟨K.put s.c 0 ⟨w.heap.size,0,0,arr.size,true⟩,⟨KM.le_put K _ (hK 0),?_,?_⟩,KM.put_same _ _ _ _,h2⟩;grind[KM.put_other];refine b7Y (o:=.cells (vs.map λv=>(v,0)) 0 false) S' hK h4 hlt S.base rfl (λb g l q=>by have:=S.dom b g l q;grind) ?_ (λes q=>zb) (λx pos q=>zb);intro cs cur ro q;cases q;refine⟨rfl,rfl,λx hx=>?_,rfl,⟨arr,e,fz,hblk,rfl,λo ho=>?_⟩,?_⟩;grind;grind[World.frozen?];intro off v st q;rw[wE]at q;cases hvo:vs[off]? with
  |none=>rw[hvo]at q;cases q|some y=>
   rw[hvo]at q;cases q;have hlt:off<vs'.length:=by rw[hv.len];grind
   refine⟨vs'[off],?_,hv.at_ _ _ _ (wz hlt) hvo⟩;simp only[World.cell?,hblk,wM];have:arr[off]?=some vs'[off]:=by rw[<-rR,harr,vw hlt];simp_all
   simp_all
theorem d0o {B0 w0 K h h' w}(S:Sim B0 w0 K h w){b n cur cs ro}(ho:h.get b=some (.cells cs cur ro))(hh:∀j,h'.get j=if j=b then some (.cells (cs.take n) cur ro)else h.get j):Sim B0 w0 K h' w:=by
 have hb:h'.get b=some (.cells (cs.take n) cur ro):=yD;have hn:∀j,j≠b->h'.get j=h.get j:=λj hj=>xQ;refine⟨S.size0,S.below,S.dom',λb2 g2 l2 q=>xV,S.own,S.apart,S.same,?_,?_,?_,?_,?_,(λb2 g2 l2 q hnc=>by by_cases hx:b2=b;simp_all;exact S.gen0 b2 g2 l2 q (λcs cur ro e=>hnc cs cur ro (by rw[hn b2 hx];exact e)))⟩;intro b2 g l cs2 cur2 ro2 q1 q2 q3;by_cases hb2:b2=b;subst hb2;exact S.room b2 g l cs cur ro q1 q2 ho;rw[hn b2 hb2]at q3;exact S.room b2 g l cs2 cur2 ro2 q1 q2 q3;intro b2 cs2 cur2 ro2 q;by_cases hb2:b2=b;subst hb2;rw[hb]at q;cases q;obtain⟨r1,r2,r3⟩:=S.gens b2 cs cur ro ho;grind;rw[hn b2 hb2]at q;exact S.gens b2 cs2 cur2 ro2 q;intro b2 cs2 cur2 ro2 g l q1 q2 off v st q3 q4 q5;by_cases hb2:b2=b;subst hb2;rw[hb]at q1;cases q1;rw[uP]at q3;split at q3;exact S.cells b2 cs cur ro g l ho q2 off v st q3 q4 q5;cases q3;rw[hn b2 hb2]at q1;exact S.cells b2 cs2 cur2 ro2 g l q1 q2 off v st q3 q4 q5;intro b2 es q;have hb2:b2≠b:=λe=>by rw[e,hb]at q;cases q
 rw[hn b2 hb2]at q;exact S.map b2 es q;intro b2 x pos q;have hb2:b2≠b:=λe=>by rw[e,hb]at q;cases q
 rw[hn b2 hb2]at q;exact S.siter b2 x pos q
theorem c6u {B0 w0 K h w w'}(S:Sim B0 w0 K h w){b g cur o l cs vs'}(ho:h.get b=some (.cells cs cur false))(hk:K b g=some l)(hlo:l.lo<=cs.length)(hoo:o=l.at_+(cs.length-l.lo))(u:Upd w w' l.blk o vs'):Sim B0 w0 K h w':=by
 obtain⟨hg1,hg2,hg3⟩:=S.gens b cs cur false ho;have hown:l.own=true:=(hg1 g l hk).2 rfl;obtain⟨c,e,fz,hc1,hc2,hc3⟩:=S.room b g l cs cur false hk hown ho;refine⟨S.size0,S.below.trans (u.below (S.own b g l hk hown)),λb2 g2 l2 q=>by rw[u.size];exact S.dom' b2 g2 l2 q,S.dom2,S.own,S.apart,S.same,?_,S.gens,?_,?_,?_,S.gen0⟩;intro b2 g2 l2 cs2 cur2 ro2 q1 q2 q3;exact u.room (S.room b2 g2 l2 cs2 cur2 ro2 q1 q2 q3) hc1;intro b2 cs2 cur2 ro2 g2 l2 q1 q2 off v st q3 q4 q5;obtain⟨v',r1,r2⟩:=S.cells b2 cs2 cur2 ro2 g2 l2 q1 q2 off v st q3 q4 q5;refine⟨v',?_,r2⟩;rw[u.cell_other hc1 _ ?_];exact r1;by_cases hb2:b2=b;subst hb2;rw[ho]at q1;cases q1;by_cases hbk:l2.blk=l.blk;right;have e1:=(S.same b2 g l g2 l2 hk q2).2 hbk.symm;have e2:off<cs.length:=(xC.1 q3).1;grind;simp_all;exact Or.inl (S.apart b g l b2 g2 l2 hk q2 (qg hb2) hown).symm;intro b2 es q;have hb2:b2≠b:=λe=>by rw[e,ho]at q;cases q
 obtain⟨l2,es',clock,r1,r2,r3,r4⟩:=S.map b2 es q;exact⟨l2,es',clock,r1,r2,by rw[u.other _ (S.apart b g l b2 0 l2 hk r1 (qg hb2) hown).symm];exact r3,r4⟩;intro b2 x pos q;have hb2:b2≠b:=λe=>by rw[e,ho]at q;cases q
 obtain⟨l2,r1,r2,r3,r4,r5⟩:=S.siter b2 x pos q;exact⟨l2,r1,r2,r3,r4,by rw[u.other _ (S.apart b g l b2 0 l2 hk r1 (qg hb2) hown).symm];exact r5⟩
theorem c5b {B0 w0 K h h' w}(S:Sim B0 w0 K h w){b cur l cs}{vs:List Value}(ho:h.get b=some (.cells cs cur false))(hh:∀j,h'.get j=if j=b then some (.cells (cs++vs.map λv=>(v,cur+1)) (cur+1) false)else h.get j)(hown:l.own=true)(hl:l.blk<w.heap.size)(hB:B0<=l.blk)(hsame:∀g2 l2,K b g2=some l2->l2.blk=l.blk->l2.at_+l.lo=l.at_+l2.lo)(hapart:∀b2 g2 l2,b2≠b->K b2 g2=some l2->l2.blk≠l.blk)(hroom:∃a e fz,w.heap[l.blk]?=some (.cells a e fz)/\a.size=l.sz/\∀o,o<l.sz->w.frozen? ⟨l.blk,o,none⟩=false)(hcl:∀(off) v st,l.lo<=off->(cs++vs.map λv=>(v,cur+1))[off]?=some (v,st)->∃v',w.cell? ⟨l.blk,l.at_+(off-l.lo),none⟩=some v'/\VR K v' v):Sim B0 w0 (K.put b (cur+1) l) h' w/\K.le (K.put b (cur+1) l):=by
 obtain⟨hg1,hg2',hg3⟩:=S.gens b cs cur false ho;obtain⟨l0,hg2⟩:=hg2' cur (xD _);have hnone:K b (cur+1)=none:=by cases q:K b (cur+1)<;>grind
 have hle:K.le (K.put b (cur+1) l):=KM.le_put K l hnone;have hb:h'.get b=some (.cells (cs++vs.map λv=>(v,cur+1)) (cur+1) false):=yD;have hn:∀j,j≠b->h'.get j=h.get j:=λj hj=>xQ;refine⟨⟨S.size0,S.below,?_,?_,?_,?_,?_,?_,?_,?_,?_,?_,λb2 g2 l2 q hnc=>by by_cases hx:b2=b;simp_all;rcases KM.put_inv q with⟨e1,_,_⟩|p1;omega;exact S.gen0 b2 g2 l2 p1 (λcs cur ro e=>hnc cs cur ro (by rw[hn b2 hx];exact e))⟩,hle⟩;intro b2 g l' q;rcases KM.put_inv q with⟨_,_,e⟩|q;rw[e];exact⟨hl,S.size0.2 _ hB⟩;exact S.dom' b2 g l' q;intro b2 g l' q;by_cases hx:b2=b;simp_all;rw[hn b2 hx];rcases KM.put_inv q with⟨e,_,_⟩|q;omega;exact S.dom2 b2 g l' q;intro b2 g l' q q2;rcases KM.put_inv q with⟨_,_,e⟩|q;rw[e];exact hB;exact S.own b2 g l' q q2;intro b1 g1 l1 b2 g2 l2 q1 q2 hne hx;rcases KM.put_inv q1 with⟨e1,_,e2⟩|p1<;>rcases KM.put_inv q2 with⟨e3,_,e4⟩|p2;omega;rw[e2];grind;rw[e4];grind;exact S.apart b1 g1 l1 b2 g2 l2 p1 p2 hne hx;intro b1 g1 l1 g2 l2 q1 q2;rcases KM.put_inv q1 with⟨e1,_,e2⟩|p1<;>rcases KM.put_inv q2 with⟨e3,_,e4⟩|p2;rw[e2,e4];simp_all;rw[e1]at p2;rw[e2];grind;rw[e3]at p1;rw[e4];grind;exact S.same b1 g1 l1 g2 l2 p1 p2;intro b2 g l1 cs2 cur2 ro2 q1 q2 q3;by_cases hb2:b2=b;subst hb2;rcases KM.put_inv q1 with⟨_,_,e2⟩|p1;rw[e2];exact hroom;exact S.room b2 g l1 cs cur false p1 q2 ho;rcases KM.put_inv q1 with⟨e1,_,_⟩|p1;omega;rw[hn b2 hb2]at q3;exact S.room b2 g l1 cs2 cur2 ro2 p1 q2 q3;intro b2 cs2 cur2 ro2 q;by_cases hb2:b2=b;subst hb2;rw[hb]at q;cases q;refine⟨λg l1 q1=>?_,λg hg=>(Nat.lt_or_eq_of_le hg).elim (λh=>let⟨l1,r⟩:=hg2' g zy;⟨l1,hle _ _ _ r⟩) (λh=>⟨l,by rw[h];exact KM.put_same _ _ _ _⟩),λc hc=>?_⟩;rcases KM.put_inv q1 with⟨_,e,e2⟩|p1;rw[e,e2];simp_all;grind;grind;rw[hn b2 hb2]at q;obtain⟨r1,r2,r3⟩:=S.gens b2 cs2 cur2 ro2 q;refine⟨λg l1 q1=>?_,λg hg=>let⟨l1,r⟩:=r2 g hg;⟨l1,hle _ _ _ r⟩,r3⟩;grind[KM.put_inv];intro b2 cs2 cur2 ro2 g l1 q1 q2 off v st q3 q4 q5;by_cases hb2:b2=b;subst hb2;rw[hb]at q1;cases q1;rcases KM.put_inv q2 with⟨_,e,e2⟩|p2;subst e2;obtain⟨v',r1,r2⟩:=hcl off v st q5 q3;exact⟨v',r1,r2.mono hle⟩;have hg:=(hg1 g l1 p2).1;have hlt:off<cs.length:=zu;rw[vw hlt]at q3;obtain⟨v',r1,r2⟩:=S.cells b2 cs cur false g l1 ho p2 off v st q3 q4 q5;exact⟨v',r1,r2.mono hle⟩;rcases KM.put_inv q2 with⟨e1,_,_⟩|p2;omega;rw[hn b2 hb2]at q1;obtain⟨v',r1,r2⟩:=S.cells b2 cs2 cur2 ro2 g l1 q1 p2 off v st q3 q4 q5;exact⟨v',r1,r2.mono hle⟩;intro b2 es q;have hb2:b2≠b:=λe=>by rw[e,hb]at q;cases q
 rw[hn b2 hb2]at q;obtain⟨l1,es',clock,r1,r2,r3,r4⟩:=S.map b2 es q;exact⟨l1,es',clock,hle _ _ _ r1,r2,r3,r4.mono hle⟩;intro b2 x pos q;have hb2:b2≠b:=λe=>by rw[e,hb]at q;cases q
 rw[hn b2 hb2]at q;obtain⟨l1,r1,r2,r3,r4,r5⟩:=S.siter b2 x pos q;exact⟨l1,hle _ _ _ r1,r2,r3,r4,r5⟩
theorem c3p {e a len m vs s s' v}(h:appendAt e a len vs m s=some (v,s')):∃g cs cur olds,a.spot=some g/\s.h.get a.block=some (.cells cs cur false)/\a.off+len*e.size<=cs.length/\A7 g (cs.drop a.off) (len*e.size)=some olds/\s'.c=s.c/\(∀j,s'.h.get j=if j=a.block then some (.cells (cs.take (a.off+len*e.size)++vs.map λv=>(v,cur+1)) (cur+1) false)else s.h.get j)/\v=.slice (some ⟨a.block,a.off,some (cur+1)⟩) (len+m) e.size:=by
 unfold appendAt at h;cases hg:a.spot with
  |none=>rw[hg]at h;cases h|some g=>
   rw[hg]at h;simp only[M.obind,M.bind,rd]at h;cases hb:Nat.blt a.block s.c with
    |false=>rw[hb]at h;cases h|true=>
     rw[hb]at h;cases ho:s.h.get a.block with
      |none=>rw[ho]at h;cases h|some o=>
       rw[ho]at h;cases o with
        |cells cs cur ro=>simp only[a7t,a0O,a3F,a1z,V7,J2]at h;cases ro with|true=>cases h|false=>simp only[uy,M.guard]at h;cases hgd:Nat.ble (a.off+len*e.size) cs.length with|false=>rw[hgd]at h;cases h|true=>rw[hgd]at h;cases ht:A7 g (cs.drop a.off) (len*e.size)with|none=>rw[ht]at h;cases h|some olds=>rw[ht]at h;simp only[a0g]at h;obtain⟨u,s1,hx,h⟩:=E8 h;obtain⟨_,w2,w3⟩:=b5I hx;cases h;exact⟨g,cs,cur,olds,rfl,rfl,wJ hgd,ht,w2,w3,rfl⟩
        |map es=>cases h|siter x y=>cases h
end Go.V
end
section
namespace Go.V
open Go.RowKit (Below)
theorem b6D {n:Nat}(h:(!(Nat.beq n 0))=true):n≠0:=by intro e;simp_all
structure TabOk (P:Program) (T:Tab):Prop where
 types:∀ t i,T.types.get t=some i→∃ info,P.info? t=some info∧P.underlying t=some i.und∧info.size=i.size∧info.bytes=i.bytes∧info.zero=some i.zero∧i.zero.cells.size=i.size
 funcs:∀ f fn,T.funcs.get f=some fn→P.funcs[f]?=some fn∧(fn.name == "runtime.NumGoroutine")=false
def GK (T:Tab)(K:KM):Prop:=∀g,g<T.ng->∃l,K g 0=some l/\l.blk=g/\l.lo=0/\l.at_=0
theorem GK.mono {T K K'}(h:GK T K)(hle:K.le K'):GK T K':=λg hg=>let⟨l,e,r⟩:=h g hg;⟨l,hle _ _ _ e,r⟩
theorem a0S {K}:∀(n) (v),M7 n v=true->VR K v v:=by intro n;induction n with|zero=>intro v h;cases h|succ n ih=>intro v h;cases v with|agg cs=>have h':M0 (M7 n) cs.toList=true:=h;rw[R5]at h';exact .agg rfl λi v' v e e'=>by rw[e]at e';grind|tuple cs=>have h':M0 (M7 n) cs.toList=true:=h;rw[R5]at h';exact .tuple rfl λi v' v e e'=>by rw[e]at e';grind|iface t v=>exact .iface (ih v h)|func fn a b=>cases h|_=>exact .plain h
theorem VR.eq_of_plain {K v' v}(r:VR K v' v)(h:V.plain v=true):v'=v:=by cases r<;>first|rfl|grind[V.plain]
theorem VR.eq_of_noAddr {K v' v}(r:VR K v' v):∀n,M7 n v=true->v'=v:=by
 induction r with
  |plain _=>grind|ptr _ _=>intro n h;cases n<;>simp[M7,V.plain]at h|slice _ _ _ _ _ _=>intro n h;cases n<;>simp[M7,V.plain]at h|map _=>intro n h;cases n<;>simp[M7,V.plain]at h| @agg cs' cs hl _ ih=>intro n h;cases n with|zero=>cases h|succ n=>have h':M0 (M7 n) cs.toList=true:=h;rw[R5]at h';congr 1;apply qK;apply vK;grind[List.getElem_mem]
  | @tuple cs' cs hl _ ih=>intro n h;cases n with|zero=>cases h|succ n=>have h':M0 (M7 n) cs.toList=true:=h;rw[R5]at h';congr 1;apply qK;apply vK;grind[List.getElem_mem]
  |func _ _ _ _ _ _=>intro n h;cases n<;>cases h|iface _ ih=>intro n h;cases n with|zero=>cases h|succ n=>rw[ih n h]
theorem O7 {T K}{a:Act}{fr}(hf:VRL K a.tmps.toList fr)(hg:GK T K){x v}(h:Y0 T fr x=some v):VR K (a.eval x) v:=by cases x with|tmp t=>cases h;have:=hf.lget t;rw[a4f a.tmps.toList]at this;grind[Act.eval,Array.getD_eq_getD_getElem?]|const c=>have h':(match M7 3 c with|true=>some c|false=>none)=some v:=h;split at h';rename_i hn;cases h';exact a0S _ _ hn;cases h'|global g=>have h':(match Nat.blt g T.ng with|true=>some (Value.pointer (some ⟨g,0,some 0⟩))|false=>none)=some v:=h;split at h';rename_i hn;cases h';obtain⟨l,e1,e2,e3,e4⟩:=hg g zm;have:=VR.ptr (off:=0) e1 zy;rw[e2,e3,e4]at this;exact this;cases h'|func f=>cases h;exact .func rfl (λi v' v e=>by simp at e) rfl (λi v' v e=>by simp at e)
theorem a6i {T K}{a:Act}{fr}(hf:VRL K a.tmps.toList fr)(hg:GK T K):∀{xs} {vs},a0P T fr xs=some vs->VRL K (xs.map a.eval) vs:=by intro xs;induction xs<;>first|rfl|grind[VRL.nil,a0P,VRL.cons,O7]
def S9 (P:Program)(B0:Nat)(w0:Base)(K:KM)(s':S)(x:Sem Next)(w:World)(v:Value):Prop:=∃n w' K',x.run P w=.ok n w'/\Step B0 w0 K s' w' K'/\((∃v',n=.value v'/\VR K' v' v)\/(n=.skip/\v=undef))
section
variable {P:Program}{T:Tab}{B0:Nat}{w0:Base}{w:World}{K:KM}{s s':S}{a:Act}{fr:List Value}{v:Value}
theorem Step.same {s1}(S:Sim B0 w0 K s.h w)(h:s1.h=s.h):Step B0 w0 K s1 w K:=⟨KM.le_refl K,λ_ _ _=>rfl,by rw[h];exact S⟩
theorem S9.quiet {x v'}(S:Sim B0 w0 K s.h w)(hs:s'.h=s.h)(hx:x.run P w=.ok v' w)(r:VR K v' v):S9 P B0 w0 K s' (do pure (Next.value (<-x))) w v:=⟨.value v',w,K,by simp[hx],Step.same S hs,Or.inl ⟨v',rfl,r⟩⟩
theorem S9.step {x v' w' K'}(hx:x.run P w=.ok v' w')(st:Step B0 w0 K s' w' K')(r:VR K' v' v):S9 P B0 w0 K s' (do pure (Next.value (<-x))) w v:=⟨.value v',w',K',by simp[hx],st,Or.inl ⟨v',rfl,r⟩⟩
theorem a6S {α}{x:Sem α}{y}(h:a0H P x=some y)(w):x.run P w=.ok y w:=by induction x with|pure a=>cases h;rfl|program k ih=>exact ih P h|mark m k ih=>exact ih h|_=>cases h
theorem a0j {x k}(h:ev T fr x k s=some (v,s')):∃u,Y0 T fr x=some u/\k u s=some (v,s'):=H9 h
theorem a6C {xs k}(h:evs T fr xs k s=some (v,s')):∃us,a0P T fr xs=some us/\k us s=some (v,s'):=H9 h
theorem X9 {α t}{k:TI->M α}{u}(h:ti T t k s=some (u,s')):∃i,T.types.get t=some i/\k i s=some (u,s'):=H9 h
theorem a2R {α x}{k:Addr->M α}{u}(h:a0G x k s=some (u,s')):∃ad,x=.pointer (some ad)/\k ad s=some (u,s'):=by cases x with|pointer o=>obtain⟨ad,e,h⟩:=H9 h;simp_all|_=>cases h
theorem a9j {x' ad}(r:VR K x' (.pointer (some ad))):∃ad',x'=.pointer (some ad')/\VR K (.pointer (some ad')) (.pointer (some ad)):=by generalize hv:Value.pointer (some ad)=x at r;cases r with|plain hp=>grind[V.plain]|ptr hk hl=>cases hv;exact⟨_,rfl,.ptr hk hl⟩|_=>cases hv
theorem VR.fwd {ad ad':Addr}(r:VR K (.pointer (some ad')) (.pointer (some ad)))(n:Nat):VR K (.pointer (some (ad'.add n))) (.pointer (some (fwd ad n))):=by obtain⟨g,l,e1,e2,e3,rfl⟩:=a8G r;rw[a8Z];obtain⟨b,off,sp⟩:=ad;cases e1;have:=VR.ptr (off:=off+n) e2 zu;rw[show l.at_+(off+n-l.lo)=l.at_+(off-l.lo)+n by grind]at this;exact this
theorem VR.cells {v' v}(r:VR K v' v):VRL K v'.cells.toList v.cells.toList:=by
 cases r with
  |agg hl ih=>exact⟨hl,ih⟩|plain hp=>cases v' with|agg cs=>simp[V.plain]at hp|_=>exact VRL.cons (.plain hp) (VRL.nil K)
  |ptr h1 h2=>exact VRL.cons (.ptr h1 h2) (VRL.nil K)|slice h1 h2 h3 h4 h5 h6=>exact VRL.cons (.slice h1 h2 h3 h4 h5 h6) (VRL.nil K)|map h1=>exact VRL.cons (.map h1) (VRL.nil K)|tuple h1 h2=>exact VRL.cons (.tuple h1 h2) (VRL.nil K)|func h1 h2 h3 h4=>exact VRL.cons (.func h1 h2 h3 h4) (VRL.nil K)|iface h=>exact VRL.cons (.iface h) (VRL.nil K)
theorem b8D (hT:TabOk P T){t:TypeId}{i}(h:T.types.get t=some i)(w):(isAgg t).run P w=.ok (a9Y i.und) w:=by obtain⟨info,h1,h2,_⟩:=hT.types t i h;unfold isAgg;simp only[wQ,run_underlying h2,wV];cases i.und<;>rfl
theorem a0V (hT:TabOk P T){t:TypeId}{i}(h:T.types.get t=some i)(w):(sizeOf t).run P w=.ok i.size w:=by obtain⟨info,h1,h2,h3,_⟩:=hT.types t i h;simp[sizeOf,typeInfo,h1,h3]
theorem Z7 (hT:TabOk P T){t:TypeId}{i}(h:T.types.get t=some i)(w):(underlying t).run P w=.ok i.und w:=by obtain⟨info,h1,h2,_⟩:=hT.types t i h;exact run_underlying h2 w
theorem b0i (hT:TabOk P T){t:TypeId}{i}(h:T.types.get t=some i)(w):(zeroValue t).run P w=.ok i.zero w:=by obtain⟨info,h1,h2,h3,h4,h5,h6⟩:=hT.types t i h;simp[zeroValue,typeInfo,h1,h5]
theorem b8Q (hT:TabOk P T){t ad ad' u}(h:a4E T t ad s=some (u,s'))(S:Sim B0 w0 K s.h w)(r:VR K (.pointer (some ad')) (.pointer (some ad))):∃u',(loadVar t ad').run P w=.ok u' w/\VR K u' u/\s'.h=s.h/\s'.c=s.c:=by
 obtain⟨i,hi,h⟩:=X9 h;unfold loadVar;simp only[wQ,b8D hT hi,wV];cases hag:a9Y i.und with
  |true=>rw[hag]at h;obtain⟨_,h⟩:=I4 h;obtain⟨vs,s1,h1,h2⟩:=E8 h;obtain⟨e1,e2⟩:=y8 h2;obtain⟨vs',r1,r2,r3,r4,r5⟩:=b2Q (P:=P) h1 S r;refine⟨.agg vs'.toArray,?_,?_,by rw[e2,r5],by rw[e2,r4]⟩;simp[a0V hT hi,r1];rw[e1];exact .agg xP xO|false=>
   rw[hag]at h;obtain⟨vs,s1,h1,h2⟩:=E8 h;obtain⟨e1,e2⟩:=y8 h2;obtain⟨vs',r1,r2,r3,r4,r5⟩:=b2Q (P:=P) h1 S r;refine⟨C8 vs' 0,?_,by rw[e1];exact r2.lget 0,by rw[e2,r5],by rw[e2,r4]⟩;obtain⟨x,rfl⟩:∃x,vs'=[x]:=by match vs',r3 with|[x],_=>simp_all
   have hadd:ad'.add 0=ad':=rfl;simp only[vS,uS];simp only[loadCells,loadCellsFrom,wQ,hadd]at r1;rw[run_load]at r1⊢;cases hc:w.cell? ad' with|some y=>rw[hc]at r1;simp at r1;rw[r1];rfl|none=>rw[hc]at r1;cases hf:w.farLoad P ad' (Mode.plain==Mode.atomic)with|ok z=>rw[hf]at r1;cases z;simp at r1⊢;rw[r1];rfl|error z=>rw[hf]at r1;simp at r1
theorem c7h (hT:TabOk P T){t ad ad' u u' un}(h:b6L T t ad u s=some (un,s'))(S:Sim B0 w0 K s.h w)(r:VR K (.pointer (some ad')) (.pointer (some ad)))(hu:VR K u' u):∃w',(storeVar t ad' u').run P w=.ok () w'/\Sim B0 w0 K s'.h w'/\s'.c=s.c:=by
 obtain⟨i,hi,h⟩:=X9 h;obtain⟨hg,h⟩:=I4 h;simp only[wh,si,J2]at hg;have hn:=wo hg.2;have hc:=hu.cells;have hpos:0<u.cells.toList.length:=zu;obtain⟨w',r1,r2,r3⟩:=c6e (P:=P) h S hpos r hc;refine⟨w',?_,r2,r3⟩;have hs:u'.cells.size=i.size:=by rw[<-vF,hc.len,hn]
 simp[storeVar,a0V hT hi,hs,r1]
end
end Go.V
end
section
namespace Go.V
open Go.RowKit (Below)
section
variable {P:Program}{T:Tab}{B0:Nat}{w0:Base}{w:World}{K:KM}{s s':S}{a:Act}{fr:List Value}{v:Value}
theorem c5I {x}(h:M.lift (Y0 T fr x) s=some (v,s'))(S:Sim B0 w0 K s.h w)(hf:VRL K a.tmps.toList fr)(hg:GK T K):S9 P B0 w0 K s' (pure (Next.value (a.eval x))) w v:=by obtain⟨h1,rfl⟩:=a5a h;exact⟨_,w,K,rfl,Step.same S rfl,Or.inl ⟨_,rfl,O7 hf hg h1⟩⟩
theorem d6u {c x y}(h:a9U T fr c x y s=some (v,s'))(S:Sim B0 w0 K s.h w)(hf:VRL K a.tmps.toList fr)(hg:GK T K):S9 P B0 w0 K s' (do pure (Next.value (if<-asBool (a.eval c)then a.eval x else a.eval y))) w v:=by
 obtain⟨vc,e1,q0h⟩:=a0j h;obtain⟨va,e2,q1h⟩:=a0j q0h;obtain⟨vb,e3,q2h⟩:=a0j q1h;have r1:=O7 hf hg e1;have r2:=O7 hf hg e2;have r3:=O7 hf hg e3;cases vc with
  |bool t=>have:=r1.eq_of_plain rfl;rw[this];cases t with|true=>obtain⟨rfl,rfl⟩:=y8 q2h;exact⟨_,w,K,rfl,Step.same S rfl,Or.inl ⟨_,rfl,r2⟩⟩|false=>obtain⟨rfl,rfl⟩:=y8 q2h;exact⟨_,w,K,rfl,Step.same S rfl,Or.inl ⟨_,rfl,r3⟩⟩
  |_=>exact absurd q2h zk
theorem d7a (hT:TabOk P T){t x}(h:a7V T fr t x s=some (v,s'))(S:Sim B0 w0 K s.h w)(hf:VRL K a.tmps.toList fr)(hg:GK T K):S9 P B0 w0 K s' (do pure (Next.value (<-Instr.loadAt t (a.eval x)))) w v:=by obtain⟨vx,e1,q3h⟩:=a0j h;obtain⟨ad,rfl,q4h⟩:=a2R q3h;obtain⟨ad',e2,r⟩:=a9j (O7 hf hg e1);grind[b8Q,S9.quiet,Instr.loadAt,Instr.sureAddr]
theorem d3C (hT:TabOk P T){t x y}(h:a8r T fr t x y s=some (v,s'))(S:Sim B0 w0 K s.h w)(hf:VRL K a.tmps.toList fr)(hg:GK T K):S9 P B0 w0 K s' (do Instr.storeAt t (a.eval x) (a.eval y);pure Next.skip) w v:=by obtain⟨vx,e1,q5h⟩:=a0j h;obtain⟨vy,e2,q6h⟩:=a0j q5h;obtain⟨ad,rfl,q7h⟩:=a2R q6h;obtain⟨un,s1,h1,h2⟩:=E8 q7h;obtain⟨rfl,rfl⟩:=y8 h2;obtain⟨ad',e3,r⟩:=a9j (O7 hf hg e1);obtain⟨w',r1,r2,r3⟩:=c7h hT h1 S r (O7 hf hg e2);refine⟨.skip,w',K,?_,⟨KM.le_refl K,λ_ _ _=>rfl,r2⟩,Or.inr ⟨rfl,rfl⟩⟩;rw[e3];simp[Instr.storeAt,Instr.sureAddr,r1]
theorem b0a {vs vs' ad}(h:a0b vs s=some (ad,s'))(S:Sim B0 w0 K s.h w)(F:a0z K s s')(hv:VRL K vs' vs)(t):∃K',Step B0 w0 K s' (w.alloc (.cells vs'.toArray t)) K'/\K' s.c 0=some ⟨w.heap.size,0,0,vs'.length,true⟩/\ad=⟨s.c,0,some 0⟩:=by have:=a5X (w':=w.alloc (.cells vs'.toArray t)) (arr:=vs'.toArray) (e:=t) (fz:=(0,0)) (rest:=[]) h S F hv (Grew.alloc _ _) yf zn (λo _=>zn);omega
theorem d3g (hT:TabOk P T){t}(h:b4j T t s=some (v,s'))(S:Sim B0 w0 K s.h w)(F:a0z K s s'):S9 P B0 w0 K s' (do pure (Next.value (<-Instr.alloc t true (.tuple #[])))) w v:=by obtain⟨i,hi,q8h⟩:=X9 h;obtain⟨hgd,q9h⟩:=I4 q8h;obtain⟨ad,s1,h1,h2⟩:=E8 q9h;obtain⟨rfl,rfl⟩:=y8 h2;simp only[wh]at hgd;have hz:VR K i.zero i.zero:=a0S _ _ hgd.1;obtain⟨K',r1,r2,rfl⟩:=b0a h1 S F hz.cells t;refine S9.step (v':=.pointer (some ⟨w.heap.size,0,none⟩)) (w':=w.alloc (.cells i.zero.cells t)) ?_ r1 ?_;simp[Instr.alloc,b0i hT hi,newVar,newRow];exact VR.ptr (off:=0) r2 (vY _)
theorem e0o {t x}(h:b2h T fr x s=some (v,s'))(S:Sim B0 w0 K s.h w)(F:a0z K s s')(hf:VRL K a.tmps.toList fr)(hg:GK T K):S9 P B0 w0 K s' (do pure (Next.value (<-Instr.box t (a.eval x)))) w v:=by obtain⟨vx,e1,q10h⟩:=a0j h;obtain⟨hgd,q11h⟩:=I4 q10h;obtain⟨ad,s1,h1,h2⟩:=E8 q11h;obtain⟨rfl,rfl⟩:=y8 h2;obtain⟨K',r1,r2,rfl⟩:=b0a h1 S F (O7 hf hg e1).cells t;refine S9.step (v':=.pointer (some ⟨w.heap.size,0,none⟩)) (w':=w.alloc (.cells (a.eval x).cells t)) ?_ r1 ?_;rfl;exact VR.ptr (off:=0) r2 (vY _)
theorem c1V (hT:TabOk P T){t x f}(h:a4t T fr t x f s=some (v,s'))(S:Sim B0 w0 K s.h w)(hf:VRL K a.tmps.toList fr)(hg:GK T K):S9 P B0 w0 K s' (do pure (Next.value (<-Instr.fieldAt t (a.eval x) f))) w v:=by obtain⟨vx,e1,q12h⟩:=a0j h;obtain⟨d,hd,q13h⟩:=X9 q12h;generalize hu:d.und=u at q13h;cases u with|struct fields=>obtain⟨ad,rfl,q14h⟩:=a2R q13h;obtain⟨fd,e2,q15h⟩:=H9 q14h;obtain⟨n,hn,q16h⟩:=X9 q15h;obtain⟨hgd,q17h⟩:=I4 q16h;obtain⟨rfl,rfl⟩:=y8 q17h;obtain⟨ad',e3,r⟩:=a9j (O7 hf hg e1);rw[a2E]at e2;have e2':fields[f]?=some fd:=zu;have hn0:¬n.size=0:=b6D hgd;refine S9.quiet S rfl ?_ (r.fwd fd.offset);rw[e3];simp[Instr.fieldAt,Z7 hT hd,hu,e2',Instr.sureAddr,fieldPlace,a0V hT hn,hn0]|_=>exact absurd q13h zk
theorem a3Q {x' o len es}(r:VR K x' (.slice o len es)):(∃ad ad' cap,o=some ad/\x'=.slice (some ad') len cap/\len<=cap/\VR K (.slice (some ad') len cap) (.slice (some ad) len es)/\0<es/\(cap=0\/ad'.spot=none)/\(0<cap->VR K (.pointer (some ad')) (.pointer (some ad))))\/(o=none/\len=0/\es=0/\x'=.slice none 0 0):=by
 generalize hv:Value.slice o len es=x at r;cases r with
  |plain hp=>subst hv;simp[V.plain]at hp;simp_all| @slice b g off len' cap es' l a' hk hl hes hlc hsp hor=>
   cases hv;refine Or.inl ⟨_,a',cap,rfl,rfl,hlc,.slice hk hl hes hlc hsp hor,hes,hsp,λhc=>?_⟩;rcases hor with h0|⟨h1,h2,h3⟩;omega;have:a'=⟨l.blk,l.at_+(off-l.lo),none⟩:=by obtain⟨x,y,z⟩:=a';grind
   rw[this];exact .ptr hk hl|_=>cases hv
theorem a7w {x n}(h:a7O x=some n):∃k,x=.int k (Int.ofNat n):=by
 cases x with
  |int k m=>cases m with|ofNat m=>cases h;simp_all|negSucc m=>cases h
  |_=>cases h
theorem c3A (hT:TabOk P T){t x y}(h:a2K T fr t x y s=some (v,s'))(S:Sim B0 w0 K s.h w)(hf:VRL K a.tmps.toList fr)(hg:GK T K):S9 P B0 w0 K s' (do pure (Next.value (<-Instr.indexAt t (a.eval x) (a.eval y)))) w v:=by
 obtain⟨vx,e1,q18h⟩:=a0j h;obtain⟨vy,e2,q19h⟩:=a0j q18h;obtain⟨d,hd,q20h⟩:=X9 q19h;obtain⟨i,hi,q21h⟩:=H9 q20h;obtain⟨k,rfl⟩:=a7w hi;have ey:a.eval y=.int k (Int.ofNat i):=(O7 hf hg e2).eq_of_plain rfl;rw[ey];generalize hu:d.und=u at q21h;cases u with
  |array len elem=>obtain⟨ad,rfl,q22h⟩:=a2R q21h;obtain⟨e,he,q23h⟩:=X9 q22h;obtain⟨hgd,q24h⟩:=I4 q23h;obtain⟨rfl,rfl⟩:=y8 q24h;obtain⟨ad',e3,r⟩:=a9j (O7 hf hg e1);simp only[wh]at hgd;have hlt:i<len:=zm;refine S9.quiet S rfl ?_ (r.fwd (i*e.size));rw[e3];simp[Instr.indexAt,asIntOf,Z7 hT hd,hu,Instr.sureAddr,hlt,a0V hT he]|slice elem=>cases vx with|slice o len es=>obtain⟨ad,rfl,q25h⟩:=H9 q21h;obtain⟨e,he,q26h⟩:=X9 q25h;obtain⟨hg1,q27h⟩:=I4 q26h;obtain⟨e',he',q28h⟩:=X9 q27h;rw[he]at he';cases he';obtain⟨hgd,q29h⟩:=I4 q28h;obtain⟨rfl,rfl⟩:=y8 q29h;simp only[wh]at hgd;have hlt:i<len:=zm;rcases a3Q (O7 hf hg e1)with⟨ad1,ad',cap,q1,q2,q3,q4,q5,q6,q7⟩|⟨q1,_⟩;cases q1;have r:=q7 zy;refine S9.quiet S rfl ?_ (r.fwd (i*e.size));rw[q2];simp[Instr.indexAt,asIntOf,Z7 hT hd,hu,hlt,a0V hT he];cases q1|_=>exact absurd q21h zk
  |_=>exact absurd q21h zk
theorem VRL.get? {l' l}(h:VRL K l' l){i:Nat}{x}(e:l[i]?=some x):∃x',l'[i]?=some x'/\VR K x' x:=by
 have hi:i<l.length:=(xC.1 e).1;have hi':i<l'.length:=by rw[h.len];exact hi
 exact⟨l'[i],wz hi',h.at_ i _ _ (wz hi') e⟩
theorem c1L (hT:TabOk P T){t cs' cs off u}(h:partV T t cs off s=some (u,s'))(hc:VRL K cs' cs)(w):∃u',(part t cs'.toArray off).run P w=.ok u' w/\VR K u' u/\s'=s:=by obtain⟨i,hi,q30h⟩:=X9 h;unfold part;simp only[wQ,b8D hT hi,wV];cases hag:a9Y i.und with|true=>rw[hag]at q30h;obtain⟨rfl,rfl⟩:=y8 q30h;refine⟨.agg ((cs'.drop off).take i.size).toArray,?_,?_,rfl⟩;simp only[rQ,wQ,a0V hT hi,wV,wI];simp_all;rw[a3F,a0O];have:=(hc.drop off).take i.size;exact .agg (by simpa using this.len) (by simpa using this.at_)|false=>rw[hag]at q30h;obtain⟨x,hx,q31h⟩:=H9 q30h;obtain⟨rfl,rfl⟩:=y8 q31h;rw[a2E]at hx;obtain⟨x',q1,q2⟩:=hc.get? hx;simp_all
theorem c8E {x' cs}(r:VR K x' (.agg cs)):∃cs',x'=.agg cs'/\VRL K cs'.toList cs.toList:=by generalize hv:Value.agg cs=x at r;cases r with|plain hp=>grind[V.plain]|agg hl ih=>cases hv;exact⟨_,rfl,⟨hl,ih⟩⟩|_=>cases hv
theorem d2M {x' cs}(r:VR K x' (.tuple cs)):∃cs',x'=.tuple cs'/\VRL K cs'.toList cs.toList:=by generalize hv:Value.tuple cs=x at r;cases r with|plain hp=>grind[V.plain]|tuple hl ih=>cases hv;exact⟨_,rfl,⟨hl,ih⟩⟩|_=>cases hv
theorem d2K (hT:TabOk P T){t x f}(h:a6B T fr t x f s=some (v,s'))(S:Sim B0 w0 K s.h w)(hf:VRL K a.tmps.toList fr)(hg:GK T K):S9 P B0 w0 K s' (do pure (Next.value (<-Instr.field t (a.eval x) f))) w v:=by
 obtain⟨vx,e1,q32h⟩:=a0j h;obtain⟨d,hd,q33h⟩:=X9 q32h;generalize hu:d.und=u at q33h;cases u with
  |struct fields=>cases vx with|agg cs=>obtain⟨fd,e2,q34h⟩:=H9 q33h;obtain⟨cs',e3,r⟩:=c8E (O7 hf hg e1);obtain⟨u',q1,q2,rfl⟩:=c1L hT q34h r w;rw[a2E]at e2;have e2':fields[f]?=some fd:=zu;refine S9.quiet S rfl ?_ q2;rw[e3];simp[Instr.field,Z7 hT hd,hu,e2',asAgg]at q1⊢;exact q1|_=>exact absurd q33h zk
  |_=>exact absurd q33h zk
theorem c7m {x i}(h:a6p T fr x i s=some (v,s'))(S:Sim B0 w0 K s.h w)(hf:VRL K a.tmps.toList fr)(hg:GK T K):S9 P B0 w0 K s' (do pure (Next.value (<-Instr.extract (a.eval x) i))) w v:=by obtain⟨vx,e1,q35h⟩:=a0j h;split at q35h;rename_i cs;obtain⟨y,e2,q36h⟩:=H9 q35h;obtain⟨rfl,rfl⟩:=y8 q36h;rw[a2E]at e2;obtain⟨cs',e3,r⟩:=d2M (O7 hf hg e1);obtain⟨y',q1,q2⟩:=r.get? e2;have q1':cs'[i]?=some y':=zu;refine S9.quiet S rfl ?_ q2;rw[e3];simp[Instr.extract,q1'];cases q35h
theorem c4a {o x}(ho:o.op=.nilCheck x)(h:a5i T fr x s=some (v,s'))(S:Sim B0 w0 K s.h w)(hf:VRL K a.tmps.toList fr)(hg:GK T K):S9 P B0 w0 K s' (execOp a.eval o) w v:=by
 obtain⟨o1,o2,o3,o4,o5,o6⟩:=o;cases ho;unfold execOp;simp only;obtain⟨vx,e1,q37h⟩:=a0j h;have r:=O7 hf hg e1;split at q37h;rename_i o;obtain⟨hgd,q38h⟩:=I4 q37h;obtain⟨rfl,rfl⟩:=y8 q38h;cases o with|none=>cases hgd|some ad=>obtain⟨ad',e2,r'⟩:=a9j r;rw[e2];exact⟨_,w,K,rfl,Step.same S rfl,Or.inl ⟨_,rfl,r'⟩⟩
 rename_i fn x1 x2;obtain⟨hgd,q39h⟩:=I4 q37h;obtain⟨rfl,rfl⟩:=y8 q39h;cases fn with
  |func f=>generalize hv:Value.func (Fn.func f) x1 x2=y at r;generalize hx:a.eval x=y' at r;cases r with|plain hp=>grind[V.plain]|func h1 h2 h3 h4=>cases hv;exact⟨_,w,K,rfl,Step.same S rfl,Or.inl ⟨_,rfl,.func h1 h2 h3 h4⟩⟩|_=>cases hv
  |_=>cases hgd
 cases q37h
theorem d2d (hT:TabOk P T){t x}(h:a8C T fr t x s=some (v,s'))(S:Sim B0 w0 K s.h w)(hf:VRL K a.tmps.toList fr)(hg:GK T K):S9 P B0 w0 K s' (do pure (Next.value (<-Instr.makeInterface t (a.eval x)))) w v:=by obtain⟨vx,e1,q40h⟩:=a0j h;obtain⟨d,hd,q41h⟩:=X9 q40h;obtain⟨hgd,q42h⟩:=I4 q41h;obtain⟨rfl,rfl⟩:=y8 q42h;refine S9.quiet S rfl ?_ (.iface (O7 hf hg e1));unfold Instr.makeInterface;simp only[wQ,Z7 hT hd,wV];cases hu:d.und<;>first|rfl|(rw[hu]at hgd;cases hgd)
theorem d5P {fn x y}(h:a9R T fr fn x y s=some (v,s'))(S:Sim B0 w0 K s.h w)(hf:VRL K a.tmps.toList fr)(hg:GK T K):S9 P B0 w0 K s' (do pure (Next.value (<-Instr.makeFunc fn (x.map a.eval) (y.map a.eval)))) w v:=by obtain⟨va,e1,q43h⟩:=a6C h;obtain⟨vb,e2,q44h⟩:=a6C q43h;obtain⟨rfl,rfl⟩:=y8 q44h;have r1:=a6i hf hg e1;have r2:=a6i hf hg e2;exact S9.quiet S rfl rfl (.func (by simpa using r1.len) (by simpa using r1.at_) xP xO)
end
end Go.V
end
section
namespace Go.V
open Go.RowKit (Below)
theorem b8l (off):∀(l:List Value) (k0) (cells:Array Value),off+k0+l.length<=cells.size->((l.zipIdx k0).foldl (λacc x=>acc.setIfInBounds (off+x.2) x.1) cells).size=cells.size/\∀k,((l.zipIdx k0).foldl (λacc x=>acc.setIfInBounds (off+x.2) x.1) cells)[k]?=if off+k0<=k/\k<off+k0+l.length then l[k-(off+k0)]? else cells[k]? |[],k0,cells,_=>⟨rfl,λk=>by rw[vg zn];rfl⟩|v::l,k0,cells,h=>by have h':off+(k0+1)+l.length<=(cells.setIfInBounds (off+k0) v).size:=zu;obtain⟨h1,h2⟩:=b8l off l (k0+1) (cells.setIfInBounds (off+k0) v) h';simp only[List.zipIdx_cons,List.foldl_cons];grind
theorem b9p:∀(vs cs) (k),(a5W vs cs)[k]?=if k<vs.length/\k<cs.length then vs[k]? else cs[k]?:=by intro vs;induction vs with|nil=>intro cs k;rfl|cons v vs ih=>intro cs k;cases cs with|nil=>show([]:List Value)[k]?=_;simp|cons c cs=>show(v::a5W vs cs)[k]?=_;grind
theorem b0Z (vs):∀(cs) (off k),(a2O vs cs off)[k]?=if off<=k/\k<off+vs.length/\k<cs.length then vs[k-off]? else cs[k]?:=by intro cs;induction cs with|nil=>intro off k;show([]:List Value)[k]?=_;simp|cons c cs ih=>intro off k;cases off with|zero=>show(a5W vs (c::cs))[k]?=_;rw[b9p];simp|succ off=>show(c::a2O vs cs off)[k]?=_;cases k<;>grind
theorem b2K (vs):∀(cs) (off),(a2O vs cs off).length=cs.length:=by intro cs off;apply Nat.le_antisymm;rcases uV cs.length (a2O vs cs off).length with h|h;have:=b0Z vs cs off cs.length;rw[vg zy,wT (xD _),wz h]at this;cases this;exact h;rcases uV (a2O vs cs off).length cs.length with h|h;have h1:=b0Z vs cs off (a2O vs cs off).length;rw[wT (xD _)]at h1;grind;exact h
theorem b5b {K}{ρ:Operand->Value}(place):∀(qs) (vs cs cs2 cs'),a7J place qs vs cs=some cs2->VRL K (qs.map λq=>ρ q.2) vs->VRL K cs' cs->∃cs2',Instr.fill place cs'.toArray (qs.map λq=>(q.1,ρ q.2))=some cs2'.toArray/\VRL K cs2' cs2:=by
 intro qs;induction qs with
  |nil=>intro vs cs cs2 cs' h hv hc;cases h;exact⟨cs',rfl,hc⟩|cons q qs ih=>
   intro vs cs cs2 cs' h hv hc;cases vs with
    |nil=>have:=hv.len;simp at this|cons v vs=>
     have h':(match place q.1 with|none=>none|some os=>match Nat.beq (F9 v.cells.toList) os.2&&Nat.ble (os.1+os.2) (F9 cs)with|true=>a7J place qs vs (a2O v.cells.toList cs os.1)|false=>none)=some cs2:=h;cases hp:place q.1 with
      |none=>rw[hp]at h';cases h'|some os=>
       obtain⟨off,size⟩:=os;rw[hp]at h';dsimp only at h';cases hb:Nat.beq (F9 v.cells.toList) size&&Nat.ble (off+size) (F9 cs)with
        |false=>rw[hb]at h';cases h'|true=>
         rw[hb]at h';simp only[wh,J2]at hb;have hb1:=wo hb.1;have hb2:=wJ hb.2;have hvc:=(hv.head).cells;have hsz:(ρ q.2).cells.size=size:=by rw[<-vF,hvc.len,hb1]
         have hcs:cs'.length=cs.length:=hc.len;obtain⟨f1,f2⟩:=b8l off (ρ q.2).cells.toList 0 cs'.toArray zm;let nc:=(((ρ q.2).cells.toList.zipIdx 0).foldl (λacc x=>acc.setIfInBounds (off+x.2) x.1) cs'.toArray);have hrel:VRL K nc.toList (a2O v.cells.toList cs off):=by refine⟨by rw[b2K];grind,λi x' x e e'=>?_⟩;have g1:nc[i]?=some x':=zu;rw[f2 i]at g1;rw[b0Z]at e';simp only[vZ,vF,hsz]at g1;by_cases hk:off<=i/\i<off+size;rw[vX hk]at g1;rw[vX (by rw[hb1];omega)]at e';exact hvc.at_ _ _ _ g1 e';rw[vg hk]at g1;rw[vg (by rw[hb1];omega)]at e';exact hc.at_ i x' x zu e'
         obtain⟨cs2',r1,r2⟩:=ih vs _ cs2 nc.toList h' hv.tail hrel;refine⟨cs2',?_,r2⟩;have hcond:¬(off+size>cs'.length):=zy;simp only[rX,Instr.fill,hp,hsz];simp only[ne_eq,not_true_eq_false,vD,wF,tq,hcond];rw[<-r1];congr 1;rw[<-Array.foldl_toList];simp[nc,Array.toList_zipIdx]
section
variable {P:Program}{T:Tab}{B0:Nat}{w0:Base}{w:World}{K:KM}{s s':S}{a:Act}{fr:List Value}{v:Value}
theorem b8N (hT:TabOk P T):∀(fs),(∀f∈fs,c0y T f=true)->∃places,fs.mapM (λf=>(P.info? f.type).map λi=>(f.offset,i.size))=some places/\∀j,places[j]?=a5C T fs j|[],_=>⟨[],rfl,λj=>rfl⟩|f::fs,h=>by obtain⟨places,h1,h2⟩:=b8N hT fs (λg hg=>h g (vW _ hg));have hf:=h f (vC ..);unfold c0y at hf;obtain⟨i,hi⟩:=sH.1 hf;obtain⟨info,g1,_,g3,_⟩:=hT.types _ _ hi;refine⟨(f.offset,i.size)::places,zm,λj=>?_⟩;cases j<;>first|rfl|grind[a5C,a2E]
theorem d1I (hT:TabOk P T){t:TypeId}{ps:Array (Nat×Operand)}(h:a8z T fr t ps s=some (v,s'))(S:Sim B0 w0 K s.h w)(hf:VRL K a.tmps.toList fr)(hg:GK T K):S9 P B0 w0 K s' (do pure (Next.value (<-Instr.build t (ps.map λ(i,x)=>(i,a.eval x))))) w v:=by
 obtain⟨vs,e1,h1⟩:=a6C h;obtain⟨i,hi,h2⟩:=X9 h1;obtain⟨hz,h3⟩:=I4 h2;obtain⟨info,g1,g2,g3,g4,g5,g6⟩:=hT.types t i hi;have hzz:VRL K i.zero.cells.toList i.zero.cells.toList:=(a0S (K:=K) _ _ hz).cells;rw[a1z]at e1;have hv:=a6i hf hg e1;have hv':VRL K (ps.toList.map λq=>a.eval q.2) vs:=by rw[tX]at hv;exact hv
 have hparts:(ps.map λ(i,x)=>(i,a.eval x)).toList=ps.toList.map λq=>(q.1,a.eval q.2):=zn;generalize hu:i.und=u at h3;cases u with
  |struct fields=>
   obtain⟨hfs,h4⟩:=I4 h3;obtain⟨cs,hcs,h5⟩:=H9 h4;obtain⟨rfl,rfl⟩:=y8 h5;rw[R5]at hfs;obtain⟨places,p1,p2⟩:=b8N hT fields.toList hfs;obtain⟨cs2',r1,r2⟩:=b5b (ρ:=a.eval) _ ps.toList vs _ cs _ hcs hv' hzz;refine S9.quiet (v':=.agg cs2'.toArray) S rfl ?_ (.agg xP xO);apply run_build;unfold Program.built;rw[g1,g2,hu,hparts];have hpl:(λx=>places.toArray[x]?)=a5C T fields.toList:=by funext j;rw[<-p2 j];simp
   simp_all|array n elem=>obtain⟨e,he,h4⟩:=X9 h3;obtain⟨cs,hcs,h5⟩:=H9 h4;obtain⟨rfl,rfl⟩:=y8 h5;obtain⟨einfo,k1,_,k3,_⟩:=hT.types elem e he;obtain⟨cs2',r1,r2⟩:=b5b (ρ:=a.eval) _ ps.toList vs _ cs _ hcs hv' hzz;refine S9.quiet (v':=.agg cs2'.toArray) S rfl ?_ (.agg xP xO);apply run_build;unfold Program.built;rw[g1,g2,hu,hparts];simp only[g5,k1,k3];have:(λi:Nat=>some (i*e.size,e.size))=a1W e.size:=rfl;rw[this];omega|_=>exact absurd h3 zk
theorem a8H (zs n):(a5J zs n).length=n*zs.length:=by induction n with|zero=>show([]:List Value).length=_;simp|succ n ih=>grind[a5J,V7]
theorem d2S (zs):∀(n k),k<n*zs.length->(a5J zs n)[k]?=zs[k%zs.length]?:=by intro n;induction n with|zero=>omega|succ n ih=>intro k h;show(I9 zs (a5J zs n))[k]?=_;rw[V7];grind[Nat.mod_eq_of_lt,List.getElem?_append_right,Nat.mod_eq_sub_mod]
theorem b5m (z:Array Value)(n)(hz:0<z.size):((Array.range (n*z.size)).map (λi=>z[i%z.size]!)).toList=a5J z.toList n:=by apply vK;grind[d2S,a8H]
theorem VRL.repl {zs:List Value}(h:VRL K zs zs)(n:Nat):VRL K (a5J zs n) (a5J zs n):=by induction n with|zero=>exact VRL.nil K|succ n ih=>show VRL K (I9 zs (V.a5J zs n)) (I9 zs (V.a5J zs n));rw[V7];exact h.append ih
theorem b9f (hT:TabOk P T){t:TypeId}{len:Nat}{ps:Array (Nat×Operand)}(h:a3E T fr t len ps s=some (v,s'))(S:Sim B0 w0 K s.h w)(F:a0z K s s')(hf:VRL K a.tmps.toList fr)(hg:GK T K):S9 P B0 w0 K s' (do pure (Next.value (<-Instr.buildSlice t len (ps.map λ(i,x)=>(i,a.eval x))))) w v:=by
 obtain⟨vs,e1,h1⟩:=a6C h;obtain⟨d,hd,h2⟩:=X9 h1;rw[a1z]at e1;have hv:=a6i hf hg e1;have hv':VRL K (ps.toList.map λq=>a.eval q.2) vs:=by rw[tX]at hv;exact hv
 have hparts:(ps.map λ(i,x)=>(i,a.eval x)).toList=ps.toList.map λq=>(q.1,a.eval q.2):=zn;generalize hu:d.und=u at h2;cases u with
  |slice elem=>
   obtain⟨e,he,h3⟩:=X9 h2;obtain⟨hgd,h4⟩:=I4 h3;obtain⟨cs,hcs,h5⟩:=H9 h4;obtain⟨ad,s1,h6,h7⟩:=E8 h5;obtain⟨rfl,rfl⟩:=y8 h7;simp only[wh]at hgd;obtain⟨⟨⟨q1,q2⟩,q3⟩,q4⟩:=hgd;have q2:=b6D q2;have q4:=wJ q4;obtain⟨info,g1,g2,g3,g4,g5,g6⟩:=hT.types elem e he;have hzz:VRL K e.zero.cells.toList e.zero.cells.toList:=(a0S (K:=K) _ _ q3).cells;obtain⟨cs2',r1,r2⟩:=b5b (ρ:=a.eval) _ ps.toList vs _ cs _ hcs hv' (hzz.repl len);obtain⟨K',k1,k2,rfl⟩:=b0a h6 S F r2 elem;have hlen:cs2'.length=len*e.size:=by
    have:∀(qs:List (Nat×Operand)) vs cs cs2,a7J (a1W e.size) qs vs cs=some cs2->cs2.length=cs.length:=by intro qs;induction qs with|nil=>intro vs cs cs2 h;cases h;rfl|cons q qs ih=>intro vs cs cs2 h;cases vs with|nil=>cases h|cons v vs=>have h':(match Nat.beq (F9 v.cells.toList) e.size&&Nat.ble (q.1*e.size+e.size) (F9 cs)with|true=>a7J (a1W e.size) qs vs (a2O v.cells.toList cs (q.1*e.size))|false=>none)=some cs2:=h;grind[b2K]
    rw[r2.len,this _ _ _ _ hcs,a8H,vF,g6]
   refine S9.step (v':=.slice (some ⟨w.heap.size,0,none⟩) len len) (w':=w.alloc (.cells cs2'.toArray elem)) ?_ k1 ?_;have hsm:¬len*e.size>2^24:=zy;by_cases h0:len*e.size=0;have hl0:len=0:=by grind[Nat.mul_eq_zero]
   subst hl0;simp only[Instr.buildSlice,wQ,Z7 hT hd,hu,wV,a0V hT he,hparts];have hr:(λi=>some (i*e.size,e.size))=a1W e.size:=rfl;have r1':Instr.fill (a1W e.size) #[] (List.map (λq=>(q.fst,a.eval q.snd)) ps.toList)=some cs2'.toArray:=r1;have hr0:Array.range 0=#[]:=rfl;simp[hr,newRow,hr0,r1'];have hr:(λi=>some (i*e.size,e.size))=a1W e.size:=rfl;have:=run_buildSlice w t elem len (ps.map λ(i,x)=>(i,a.eval x)) cs2'.toArray info e.zero (by rw[<-hu];exact(hT.types t d hd).choose_spec.2.1) g1 g5 (by rw[g3];exact hsm) (by rw[g3];exact h0) (by rw[g3,hr,hparts,<-r1];congr 1;grind[b5m]);exact this;refine VR.slice (off:=0) k2 (vY _) zy (xD _) (Or.inr rfl) ?_;simp_all|_=>exact absurd h2 zk
end
end Go.V
end
section
namespace Go.V
open Go.RowKit (Below)
section
variable {P:Program}{T:Tab}{B0:Nat}{w0:Base}{w:World}{K:KM}{s s':S}{a:Act}{fr:List Value}{v:Value}
theorem b6O (n)(h:n<9223372036854775808):IntKind.i64.wrap (Int.ofNat n)=Int.ofNat n:=by unfold IntKind.wrap;have e1:(2^IntKind.i64.bits:Int)=18446744073709551616:=rfl;have e2:(2^(IntKind.i64.bits-1):Int)=9223372036854775808:=rfl;rw[e1,e2];have:(Int.ofNat n)%18446744073709551616=Int.ofNat n:=Int.emod_eq_of_lt zn (by have:(Int.ofNat n)=(n:Int):=rfl;omega);rw[this];grind
theorem d2F (zs m n):a5J zs (m+n)=a5J zs m++a5J zs n:=by induction m with|zero=>rw[wM];rfl|succ m ih=>rw[show m+1+n=(m+n)+1 by omega];grind[a5J,V7]
theorem d5H (hT:TabOk P T){t x y}(h:a9W T fr t x y s=some (v,s'))(S:Sim B0 w0 K s.h w)(F:a0z K s s')(hf:VRL K a.tmps.toList fr)(hg:GK T K):S9 P B0 w0 K s' (do pure (Next.value (<-Instr.makeSlice t (a.eval x) (a.eval y)))) w v:=by
 obtain⟨vx,e1,h1⟩:=a0j h;obtain⟨vy,e2,h2⟩:=a0j h1;obtain⟨d,hd,h3⟩:=X9 h2;generalize hu:d.und=u at h3;cases u with
  |slice elem=>
   obtain⟨e,he,h4⟩:=X9 h3;obtain⟨l,hl,h5⟩:=H9 h4;obtain⟨c,hc,h6⟩:=H9 h5;obtain⟨hgd,h7⟩:=I4 h6;obtain⟨ad,s1,h8,h9⟩:=E8 h7;obtain⟨rfl,rfl⟩:=y8 h9;obtain⟨k1,rfl⟩:=a7w hl;obtain⟨k2,rfl⟩:=a7w hc;have ex:a.eval x=.int k1 (Int.ofNat l):=(O7 hf hg e1).eq_of_plain rfl;have ey:a.eval y=.int k2 (Int.ofNat c):=(O7 hf hg e2).eq_of_plain rfl;simp only[wh]at hgd;obtain⟨⟨⟨⟨⟨q1,q2⟩,q3⟩,q4⟩,q5⟩,q6⟩:=hgd;have q1:=wJ q1;have q2:c<4294967296:=by grind[Nat.blt_eq,a7M]
   have q3:e.bytes<4096:=zm;have q5:=b6D q5;obtain⟨info,g1,g2,g3,g4,g5,g6⟩:=hT.types elem e he;have hzz:VRL K e.zero.cells.toList e.zero.cells.toList:=(a0S (K:=K) _ _ q6).cells;have hzpos:0<e.zero.cells.size:=by rw[g6];omega
   let arr:Array Value:=(Array.range (c*e.size)).map (λi=>e.zero.cells[i%e.zero.cells.size]!);have harr:arr.toList=a5J e.zero.cells.toList c:=by have:=b5m e.zero.cells c hzpos;grind
   have hsz:arr.size=c*e.size:=by simp[arr]
   obtain⟨K',r1,r2,rfl⟩:=a5X (w':=w.alloc (.cells arr elem)) (arr:=arr) (e:=elem) (fz:=(0,0)) (rest:=a5J e.zero.cells.toList (c-l)) h8 S F (hzz.repl l) (Grew.alloc _ _) yf (by rw[harr,<-d2F];grind) (λo _=>zn);refine S9.step (v':=.slice (some ⟨w.heap.size,0,none⟩) l c) (w':=w.alloc (.cells arr elem)) ?_ r1 ?_;rw[ex,ey];have hb:(e.bytes:Int)*Int.ofNat c<2^48:=by
    have h1:e.bytes*c<4096*4294967296:=by rcases sI c with h0|h0;grind;exact wY (Nat.mul_lt_mul_of_pos_right q3 h0) (Nat.mul_le_mul_left _ zy)
    have:(e.bytes:Int)*Int.ofNat c=((e.bytes*c:Nat):Int):=zn;rw[this];omega
   have hb':¬((e.bytes:Int)*(c:Int)>281474976710656):=by have:(e.bytes:Int)*Int.ofNat c=(e.bytes:Int)*(c:Int):=rfl;omega
   simp only[Instr.makeSlice,wQ,Z7 hT hd,hu,wV,asInt,asIntOf,wI,typeInfo,run_program,g1,b6O l zy,b6O c zy,g4];have hcond:(decide (Int.ofNat c<0)||decide ((e.bytes:Int)*Int.ofNat c>2^48)||decide (Int.ofNat l<0)||decide (Int.ofNat l>Int.ofNat c))=false:=zm;simp only[hcond,vS,uS,run_askRoom,wQ,wV,a0V hT he];have hfin:∀z:Array Value,(z=e.zero.cells\/c*e.size=0)->(Array.range (c*e.size)).map (λx=>z[x%z.size]!)=arr:=zu;simp only[uL,Int.toNat_natCast]at*;by_cases h0:c*e.size=0;rw[vX h0];simp only[wQ,wI,wV,newRow,pF];rw[hfin #[] (Or.inr h0)];rfl;rw[vg h0];simp only[wQ,b0i hT he,wI,wV,newRow,pF];rw[hfin _ (Or.inl rfl)];rfl;refine VR.slice (off:=0) r2 (vY _) zy q1 (Or.inr rfl) (Or.inr ⟨rfl,rfl,λ_=>?_⟩);simp_all|_=>exact absurd h3 zk
end
end Go.V
end
