import Derived.Test.YtmomonnlmbljoaaGreatDoorKaa
import Derived.Test.YtmomonnlmbljoaaGreatDoorKac
set_option maxRecDepth 1000000
set_option maxHeartbeats 4000000
set_option linter.unusedVariables false
set_option linter.unusedSimpArgs false
section
namespace Go.V
open Go.RowKit (Below)
section
variable {P:Program}{T:Tab}{B0:Nat}{w0:Base}{w:World}{K:KM}{s s':S}{a:Act}{fr:List Value}{v:Value}
structure Trace (P:Program) (T:Tab) (call:Nat→List Value→M Value) (L:List Oper) (feet:List (List Nat×List Nat)) (C:Nat→Nat) (H:Nat→Trie VObj) (FR:Nat→List Value) (k n:Nat):Prop where
 op:∀ i,k≤i→i<n→∃ o ft,L[i]?=some o∧feet[i - k]?=some ft ∧
  ((a1Y L (FR i) o=true∧∃ v,Z4 P T call (FR i) o.op ⟨C i,H i, [], []⟩=some (v,⟨C (i+1),H (i+1),ft.1,ft.2⟩)∧FR (i+1)=Q3 (FR i) o v) ∨
   (a1Y L (FR i) o=false∧ft=([], [])∧C (i+1)=C i∧H (i+1)=H i∧FR (i+1)=Q3 (FR i) o undef))
theorem c6i {call}(L):∀(m k) (fr fr') (s s') (feet),k+m=L.length->a2t P T call L (L.drop k) fr s=some ((fr',feet),s')->feet.length=m/\∃C H FR,C k=s.c/\H k=s.h/\FR k=fr/\C (k+m)=s'.c/\H (k+m)=s'.h/\FR (k+m)=fr'/\Trace P T call L feet C H FR k (k+m):=by
 intro m;induction m with
  |zero=>intro k fr fr' s s' feet hk h;have:L.drop k=[]:=qR zy;rw[this]at h;have h':M.pure (fr,([]:List (List Nat×List Nat))) s=some ((fr',feet),s'):=h;obtain⟨e,rfl⟩:=x8 h';cases e;exact⟨rfl,λ_=>_,λ_=>_,λ_=>_,rfl,rfl,rfl,rfl,rfl,rfl,⟨λi h1 h2=>zy⟩⟩|succ m ih=>
   intro k fr fr' s s' feet hk h;have hlt:k<L.length:=zy;rw[tH hlt,a7L]at h;cases hw:a1Y L fr L[k]with
    |true=>rw[hw]at h;simp only[qD]at h;obtain⟨x,s1,h1,h2⟩:=D6 h;obtain⟨y,s2,h3,h4⟩:=D6 h2;obtain⟨e,rfl⟩:=x8 h4;obtain⟨y1,y2⟩:=y;cases e;unfold M.foot at h1;cases hst:Z4 P T call fr L[k].op ⟨s.c,s.h,[],[]⟩with|none=>rw[hst]at h1;cases h1|some z=>obtain⟨u,sz⟩:=z;rw[hst]at h1;simp only[E9]at h1;cases h1;obtain⟨q0,C,H,FR,q1,q2,q3,q4,q5,q6,q7⟩:=ih (k+1) _ _ _ _ _ zy h3;dsimp only at q1 q2 q3;refine⟨by simp[q0],λi=>if i=k then s.c else C i,λi=>if i=k then s.h else H i,λi=>if i=k then fr else FR i,zq,zq,zq,?_,?_,?_,⟨λi h1 h2=>?_⟩⟩;grind;grind;grind;by_cases hik:i=k;simp_all;obtain⟨o,ft,t1,t2,t3⟩:=q7.op i zy zy;grind
    |false=>rw[hw]at h;simp only[uo,tN]at h;obtain⟨y,s2,h3,h4⟩:=D6 h;obtain⟨e,rfl⟩:=x8 h4;obtain⟨y1,y2⟩:=y;cases e;obtain⟨q0,C,H,FR,q1,q2,q3,q4,q5,q6,q7⟩:=ih (k+1) _ _ _ _ _ zy h3;refine⟨by simp[q0],λi=>if i=k then s.c else C i,λi=>if i=k then s.h else H i,λi=>if i=k then fr else FR i,zq,zq,zq,?_,?_,?_,⟨λi h1 h2=>?_⟩⟩;grind;grind;grind;by_cases hik:i=k;simp_all;obtain⟨o,ft,t1,t2,t3⟩:=q7.op i zy zy;grind
theorem a5C {fr fr2 t}(h:fr[t]?=fr2[t]?):D5 fr t=D5 fr2 t:=by rw[a4n,a4n,h]
theorem a3b (fr o v t):(Q3 fr o v)[t]?=if t∈a2O o/\t<fr.length then some v else fr[t]?:=by unfold Q3 a2O;cases o.dst with|none=>simp|some d=>simp only[b0f,qZ,vP];grind
theorem a4o (fr o v):(Q3 fr o v).length=fr.length:=by grind[Q3,b0f]
theorem d1A {α β}:∀(l:List α) (m:List β) (i:Nat) (x) (y),l[i]?=some x->m[i]?=some y->(a4N l m)[i]?=some (x,y):=by intro l;induction l with|nil=>simp_all|cons a l ih=>intro m i x y h1 h2;cases m with|nil=>simp at h2|cons b m=>show((a,b)::a4N l m)[i]?=_;grind
theorem Sim.congr {h h'}(S:Sim B0 w0 K h w)(e:∀j,h'.get j=h.get j):Sim B0 w0 K h' w:=⟨S.size0,S.below,S.dom',λb g l q=>by rw[e];exact S.dom2 b g l q,S.own,S.apart,S.same,λb g l cs cur ro q1 q2 q3=>S.room b g l cs cur ro q1 q2 (by rw[<-e];exact q3),λb cs cur ro q=>S.gens b cs cur ro (by rw[<-e];exact q),λb cs cur ro g l q1=>S.cells b cs cur ro g l (by rw[<-e];exact q1),λb es q=>S.map b es (by rw[<-e];exact q),λb x p q=>S.siter b x p (by rw[<-e];exact q),λb g l q hnc=>S.gen0 b g l q λcs cur ro e'=>hnc cs cur ro (by rw[e];exact e')⟩
structure Inv (B0:Nat) (w0:Base) (T:Tab) (K0:KM) (cn n len0:Nat) (H:Nat→Trie VObj) (FR:Nat→List Value) (dw dst ps:Nat→List Nat) (ds:List Deferred) (D:Nat→Bool) (a:Act) (w:World) (K:KM) (hD:Trie VObj) (fD:List Value):Prop where
 heap:∀ id,hD.get id=a7b (fun i=>(H i).get id) D (fun i=>decide (id∈dw i)) n
 flen:fD.length=len0
 tmps:∀ t,fD[t]?=a7b (fun i=>(FR i)[t]?) D (fun i=>decide (t∈dst i)) n
 sim:Sim B0 w0 K hD w
 vrl:VRL K a.tmps.toList fD
 gk:GK T K
 le:K0.le K
 far:∀ i g,cn≤i→K i g=K0 i g
 defs:a.defers=ds
 closed:∀ j,j<n→D j=true→∀ p,p∈ps j→D p=true
theorem b5e (hT:TabOk P T)(hM:P.follows .mixedOrders=true){call}(hC:a5c P T B0 w0 call)(hF:∀f vs,Fr (call f vs)){id}(ops){Q}{fr'}{feet}(h:a2t P T call ops.toList ops.toList fr s=some ((fr',feet),s'))(hok:a3f ops.toList (a4N ops.toList feet) [] [] 0=true)(S:Sim B0 w0 K s.h w)(F:a0t K s s')(hf:VRL K a.tmps.toList fr)(hg:GK T K)(hq:∀a' w' K',Step B0 w0 K s' w' K'->VRL K' a'.tmps.toList fr'->a'.defers=a.defers->Q .normal a' w'):(Code.region id ops true).wp P Q a w:=by
 obtain⟨hlen,C,H,FR,c1,c2,c3,c4,c5,c6,tr⟩:=c6i (P:=P) (T:=T) (call:=call) ops.toList ops.size 0 fr fr' s s' feet zq zo;rw[vY]at c4 c5 c6 tr;obtain⟨ps,_,hps⟩:=c4j _ _ _ _ hok rfl rfl;simp only[vY,vI]at hps;let dw:Nat->List Nat:=λi=>((feet[i]?).getD ([],[])).2;let dr:Nat->List Nat:=λi=>((feet[i]?).getD ([],[])).1;let dst:Nat->List Nat:=λi=>((ops.toList[i]?).map a2O).getD [];have hop:∀i,i<ops.size->∃o,ops[i]?=some o/\ops.toList[i]?=some o/\dst i=a2O o/\(a4N ops.toList feet)[i]?=some (o,(dr i,dw i))/\((a1Y ops.toList (FR i) o=true/\∃v,Z4 P T call (FR i) o.op ⟨C i,H i,[],[]⟩=some (v,⟨C (i+1),H (i+1),dr i,dw i⟩)/\FR (i+1)=Q3 (FR i) o v)\/(a1Y ops.toList (FR i) o=false/\dr i=[]/\dw i=[]/\C (i+1)=C i/\H (i+1)=H i/\FR (i+1)=Q3 (FR i) o undef)):=by intro i hi;obtain⟨o,ft,t1,t2,t3⟩:=tr.op i (vH _) hi;rw[ql]at t2;have e1:dr i=ft.1:=zo;have e2:dw i=ft.2:=zo;refine⟨o,zo,t1,zo,?_,?_⟩;rw[d1A _ _ i o ft t1 t2,e1,e2];grind
 have hfoot:∀i,i<ops.size->C i<=C (i+1)/\(∀x,x∈dw i->x<C (i+1))/\(∀x,C i<=x->x<C (i+1)->x∈dw i)/\(∀x,x∉dw i->(H (i+1)).get x=(H i).get x):=by intro i hi;obtain⟨o,_,_,_,_,t⟩:=hop i hi;rcases t with⟨_,v,a2,_⟩|⟨_,_,b2,b3,b4,_⟩;obtain⟨r0,w0',e1,e2,e3,e4,e5,e6,e7,e8⟩:=Fr.stepOp P T hF _ _ _ _ _ a2;simp_all;simp_all
 have hmono:∀i j,i<=j->j<=ops.size->C i<=C j:=by intro i j hij;induction j<;>grind
 have hclash:∀i j,i<j->j<ops.size->i∈ps j\/((∀x,x∈dw i->x∉dr j)/\(∀x,x∈dw i->x∉dw j)/\(∀x,x∈dw j->x∉dr i)/\(∀o o',ops.toList[i]?=some o->ops.toList[j]?=some o'->(∀t,t∈dst i->t∉a3C ops.toList o')/\(∀t,t∈dst i->t∉dst j)/\(∀t,t∈dst j->t∉a3C ops.toList o))):=by intro i j hij hj;obtain⟨oj,_,j1,j2,j3,_⟩:=hop j hj;obtain⟨oi,_,i1,i2,i3,_⟩:=hop i zy;rcases(hps j _ j3).2.2 i _ hij i3 with q|q;grind;obtain⟨f1,f2,f3,f4,f5,f6⟩:=d0q q;simp_all
 have hXh:∀x k,k<ops.size->decide (x∈dw k)=false->(H (k+1)).get x=(H k).get x:=λx k hk hd=>(hfoot k hk).2.2.2 x zo;have hXt:∀t k,k<ops.size->decide (t∈dst k)=false->(FR (k+1))[t]?=(FR k)[t]?:=by
  intro t k hk hd;obtain⟨o,_,_,d1,_,q⟩:=hop k hk;have hnd:t∉a2O o:=by rw[<-d1];grind
  rcases q with⟨_,v,_,e⟩|⟨_,_,_,_,_,e⟩<;>rw[e,a3b,vN (λq=>hnd q.1)]
 have hlenF:∀k,k<=ops.size->(FR k).length=fr.length:=by intro k;induction k with|zero=>simp_all|succ k ih=>intro hk;obtain⟨o,_,_,_,_,q⟩:=hop k zy;rcases q with⟨_,v,_,e⟩|⟨_,_,_,_,_,e⟩<;>rw[e,a4o,ih zy]
 refine wp_region_any hM ?_;have key:∀(fuel:Nat) (listed:Array Bool) (a1:Act) (w1:World) (U:List Nat),listed.size=ops.size->U.length=fuel->U.Nodup->(∀j,j<ops.size->(listed.getD j false=false↔j∈U))->(∀j,j∈U->j<ops.size)->(∃K1 hD fD,Inv B0 w0 T K s'.c ops.size fr.length H FR dw dst ps a.defers (λj=>listed.getD j false) a1 w1 K1 hD fD)->wpAny P .any ops Q fuel listed a1 w1:=by
  intro fuel;have hend:∀(listed:Array Bool) (a1:Act) (w1:World),(∀j,j<ops.size->listed.getD j false=true)->(∃K1 hD fD,Inv B0 w0 T K s'.c ops.size fr.length H FR dw dst ps a.defers (λj=>listed.getD j false) a1 w1 K1 hD fD)->Q .normal a1 w1:=by
   intro listed a1 w1 hall ⟨K1,hD,fD,I⟩;have e1:∀x,s'.h.get x=hD.get x:=λx=>by rw[I.heap x,c1L (hXh x) hall,c5]
   have e2:fD=fr':=by apply ui;intro t;rw[I.tmps t,c1L (hXt t) hall,c6]
   subst e2;exact hq a1 w1 K1 ⟨I.le,I.far,I.sim.congr e1⟩ I.vrl I.defs
  have hgetD:∀(listed:Array Bool) i,listed.size=ops.size->i<ops.size->listed.getD i true=listed.getD i false:=zn;induction fuel with
   |zero=>intro listed a1 w1 U hsz hU hnd hUU hUn hI;have hall:∀j,j<ops.size->listed.getD j false=true:=zn;refine⟨?_,hend listed a1 w1 hall hI⟩;grind[Region.ready,List.filter_eq_nil_iff]|succ fuel ih=>
    intro listed a1 w1 U hsz hU hnd hUU hUn hI;refine⟨λhr=>?_,λi hi=>?_⟩;exfalso;obtain⟨u,hu,hmin⟩:∃u,u∈U/\∀x,x∈U->u<=x:=by
     have hne:∃x,x∈U:=by cases U<;>first|rfl|grind[List.mem_cons_self]
     obtain⟨x,hx⟩:=hne;have:∀m x,x<=m->x∈U->∃u,u∈U/\∀x,x∈U->u<=x:=by intro m;induction m with|zero=>grind|succ m ihm=>intro x h1 h2;by_cases hh:∃y,y∈U/\y<=m;obtain⟨y,y1,y2⟩:=hh;exact ihm y y2 y1;grind
     exact this x x (wP _) hx
    have hun:=hUn u hu;obtain⟨o,o1,o2,_,o3,_⟩:=hop u hun;have hmem:u∈Region.ready .any ops listed:=by unfold Region.ready;rw[List.mem_filter];refine⟨zo,?_⟩;rw[hgetD listed u hsz hun,(hUU u hun).2 hu,o1];simp only[uS,uK,qA,Option.getD_some];rw[qJ];grind
    rw[hr]at hmem;cases hmem;obtain⟨K1,hD,fD,I⟩:=hI;unfold Region.ready at hi;rw[List.mem_filter]at hi;have hin:i<ops.size:=zn;obtain⟨o,o1,o2,o3,o4,o5⟩:=hop i hin;have hi2:=hi.2;rw[hgetD listed i hsz hin,o1]at hi2;simp only[qA,Option.getD_some,wI,sw]at hi2;obtain⟨hnl,hed⟩:=hi2;rw[qJ]at hed;let D:Nat->Bool:=λj=>listed.getD j false;let D':Nat->Bool:=λj=>(listed.setIfInBounds i true).getD j false;have hD':∀j,D' j=if j=i then true else D j:=by intro j;show(listed.setIfInBounds i true).getD j false=_;by_cases hj:j=i;simp_all;rw[vN hj];show _=listed.getD j false;simp only[rF,pE];rw[vN (λq=>hj q.symm)]
    have hpsD:∀p,p∈ps i->D p=true:=by
     intro p hp;obtain⟨e,he,hb,hpe⟩:=(hps i _ o4).2.1 p hp;have he1:D e.on=true:=by have:=hed e zo;rw[hb]at this;grind
     have hlt:=(hps i _ o4).1 e he hb;rcases hpe with rfl|hpe;exact he1;exact I.closed e.on zy he1 p hpe
    have hside:∀j,j<ops.size->j≠i->(¬(j<i/\j∉ps i))/\(¬(i<j/\D j=true/\i∉ps j))->True:=λ_ _ _ _=>trivial;have hagreeH:∀x,(x∈dr i\/x∈dw i)->∀j,j<ops.size->x∈dw j->(D j=true↔j<i):=by intro x hx j hj hxj;rcases oM j i with hlt|rfl|hgt;grind;grind;refine⟨λq=>?_,λq=>zy⟩;rcases hclash i j hgt hj with q'|⟨q1,q2,q3,_⟩;have:=I.closed j hj q i q';have hf:D i=false:=hnl;rw[show D i=true from this]at hf;cases hf;grind
    have hagreeT:∀t,(t∈a3C ops.toList o\/t∈dst i)->∀j,j<ops.size->t∈dst j->(D j=true↔j<i):=by intro t ht j hj htj;rcases oM j i with hlt|rfl|hgt;grind;grind;refine⟨λq=>?_,λq=>zy⟩;rcases hclash i j hgt hj with q'|⟨_,_,_,q4⟩;have:=I.closed j hj q i q';have hf:D i=false:=hnl;rw[show D i=true from this]at hf;cases hf;grind
    have hH:∀x,(x∈dr i\/x∈dw i)->hD.get x=(H i).get x:=λx hx=>by rw[I.heap x];exact b1U (hXh x) i (λj hj hw=>hagreeH x hx j hj zo) zy
    have hFt:∀t,(t∈a3C ops.toList o\/t∈dst i)->fD[t]?=(FR i)[t]?:=λt ht=>by rw[I.tmps t];exact b1U (hXt t) i (λj hj hw=>hagreeT t ht j hj zo) zy
    obtain⟨hstep,hwant⟩:=b4V (P:=P) (T:=T) (call:=call) (ops:=ops.toList) (o:=o) (fr:=fD) (fr2:=FR i) (λt ht=>a5C (hFt t (Or.inl ht)));have hnext:∀(v:Value) (hD2:Trie VObj) (K2:KM) (v':Value) (w2:World),FR (i+1)=Q3 (FR i) o v->(∀x,x∈dw i->hD2.get x=(H (i+1)).get x)->(∀x,x∉dw i->hD2.get x=hD.get x)->Sim B0 w0 K2 hD2 w2->K1.le K2->(∀x g,s'.c<=x->K2 x g=K1 x g)->VR K2 v' v->wpAny P .any ops Q fuel (listed.setIfInBounds i true) (a1.put o.dst v') w2:=by
     intro v hD2 K2 v' w2 e1 e2 e3 e4 e5 e6 e7;refine ih _ _ _ (U.erase i) (by simp[hsz]) ?_ (hnd.erase i) (λj hj=>?_) (λj hj=>hUn j (List.mem_of_mem_erase hj)) ⟨K2,hD2,Q3 fD o v,⟨λx=>?_,by rw[a4o];exact I.flen,λt=>?_,e4,a8C (I.vrl.mono e5) o e7,I.gk.mono e5,KM.le_trans I.le e5,λx g hx=>(e6 x g hx).trans (I.far x g hx),by rw[a3d];exact I.defs,λj hj hd p hp=>?_⟩⟩;have:i∈U:=(hUU i hin).1 hnl;rw[List.length_erase_of_mem this,hU];rfl;have:=hD' j;show D' j=false↔_;rw[this,hnd.mem_erase_iff];by_cases hji:j=i;grind;grind;show _=a7b _ D' _ _;by_cases hx:x∈dw i;rw[e2 x hx,c4Y (n:=ops.size) i hin (by rw[hD' i,vG rfl]) zo (λj h1 h2 h3=>?_)];rw[hD' j,vN zy]at h3;grind;rw[e3 x hx,I.heap x];refine(c2V λj hj hw=>?_).symm;rw[hD' j,vN (λq=>hx zo)];show _=a7b _ D' _ _;by_cases ht:t∈dst i;rw[c4Y (n:=ops.size) i hin (by rw[hD' i,vG rfl]) zo (λj h1 h2 h3=>?_)];rw[e1,a3b,a3b,hFt t (Or.inr ht),I.flen,hlenF i zy];rw[hD' j,vN zy]at h3;grind;rw[a3b,vN (λq=>ht (by rw[o3];exact q.1)),I.tmps t];refine(c2V λj hj hw=>?_).symm;rw[hD' j,vN (λq=>ht zo)];have hdj:D' j=true:=hd;show D' p=true;rw[hD' j]at hdj;rw[hD' p];by_cases hji:j=i;subst hji;have:=hpsD p hp;split<;>first|rfl|exact this
     rw[vN hji]at hdj;have:=I.closed j hj hdj p hp;split<;>first|rfl|exact this
    unfold wpOp;rw[o1];dsimp only;rw[a9Q ops a1.tmps I.vrl,hwant];rcases o5 with⟨b1,v,b2,b3⟩|⟨b1,b2,b3,b4,b5,b6⟩;rw[b1,vG rfl];left;obtain⟨r0,w0',e1,e2,e3,e4,e5,e6,e7,e8⟩:=Fr.stepOp P T hF _ _ _ _ _ b2;simp only[wF]at e1 e2;subst e1 e2;obtain⟨h2',q1,q2,q3⟩:=e8 hD [] [] (λx hx _=>hH x hx);rw[<-hstep]at q1;have hfree:a0t K1 ⟨C i,hD,[],[]⟩ ⟨C (i+1),h2',dr i++[],dw i++[]⟩:=by intro x hx1 hx2;show hD.get x=none;have hx1:C i<=x:=hx1;have hx2:x<C (i+1):=hx2;rw[I.heap x,b3B (λj hj hd=>?_)];show(H 0).get x=none;rw[c2];have h0:=hmono 0 i (vH _) zy;have hn:=hmono (i+1) ops.size zy (wP _);exact F x (by rw[<-c1];omega) (by rw[<-c4];omega);grind
    refine b0Y hT hC q1 I.sim hfree I.vrl I.gk λv' w2 K2 st r=>?_;refine hnext v h2' K2 v' w2 b3 q2 q3 st.sim st.le (λx g hx=>st.far x g ?_) r;have hn:=hmono (i+1) ops.size zy (wP _);grind;rw[b1];simp only[uo,tN];exact hnext undef hD K1 undef w1 b6 (λx hx=>by rw[b3]at hx;cases hx) (λ_ _=>rfl) I.sim (KM.le_refl _) (λ_ _ _=>rfl) (VR.undef K1)
 refine key ops.size (Array.replicate ops.size false) a _ (List.range ops.size) zq zq List.nodup_range (λj hj=>by simp[hj]) (λj hj=>zo) ?_;refine⟨K,s.h,fr,⟨λx=>?_,rfl,λt=>?_,a6k S (Grew.drew w),hf,hg,KM.le_refl K,λ_ _ _=>rfl,rfl,λj hj hd=>?_⟩⟩;rw[b3B (λj hj hd=>by simp[hj]at hd),c2];rw[b3B (λj hj hd=>by simp[hj]at hd),c3];simp_all
end
end Go.V
end
noncomputable section
namespace Go.V
theorem c4G {α}(l):∀k:List Value->α,c3x l k=k l:=by induction l with|nil=>intro k;rfl|cons x l ih=>intro k;show a8s x (λx=>c3x l λl=>k (x::l))=_;rw[a8A,ih]
theorem a6r:a4b=o8:=by
 unfold a4b o8;have h1:(λ(β:Type) (m:M Value) (k:Value->M β)=>M.bind m λv=>a8s v k)=λ_ m k=>M.bind m k:=by funext β m k;simp_all[a8A]
 have h2:(λ(β:Type) (m:M CR) (kn kp:Value->M β)=>M.bind m λr=>a1B r (λv=>a8s v kn) kp)=λ_ m kn kp=>M.bind m λr=>a1B r kn kp:=by funext β m kn kp;simp_all[a8A]
 have h3:c5U=R7:=by funext body n;induction n<;>first|rfl|grind[c5U,R7,c4G]
 have h4:(λ(β:Type) (m:M (Xc×List Value)) (k:Xc->List Value->M β)=>M.bind m λr=>c3x r.2 λxs=>k r.1 xs)=λ_ m k=>M.bind m λr=>k r.1 r.2:=by funext β m k;grind[c4G]
 rw[h1,h2,h3,h4]
def Le {α:Type}(m m':M α):Prop:=∀s r,m s=some r->m' s=some r
theorem Le.refl {α}(m:M α):Le m m:=λ_ _ h=>h
theorem Le.trans {α}{a b c:M α}(h:Le a b)(k:Le b c):Le a c:=λs r e=>k s r (h s r e)
theorem Le.fail {α}(m:M α):Le M.fail m:=λ_ _ h=>zg
theorem a1r {α β m}{f:α->M β}{s s1 a r}(h:m s=some (a,s1))(h':f a s1=some r):M.bind m f s=some r:=by grind[M.bind]
theorem Le.bind {α β m m'}{f f':α->M β}(h:Le m m')(k:∀a,Le (f a) (f' a)):Le (M.bind m f) (M.bind m' f'):=λs r e=>by obtain⟨a,s1,h1,h2⟩:=D6 (s2:=r.2) (b:=r.1) e;exact a1r (h s _ h1) (k a s1 _ h2)
theorem Le.obind {α β o}{f f':α->M β}(k:∀a,o=some a->Le (f a) (f' a)):Le (M.obind o f) (M.obind o f'):=by cases o with|none=>exact Le.fail _|some a=>exact k a rfl
theorem Le.obind_bind {α β γ o}{f:α->M γ}{f':α->M β}{g}(k:∀a,o=some a->Le (f a) (M.bind (f' a) g)):Le (M.obind o f) (M.bind (M.obind o f') g):=by cases o with|none=>exact Le.fail _|some a=>exact k a rfl
theorem Le.guard {α b}{m m':M α}(h:b=true->Le m m'):Le (M.guard b m) m':=by cases b with|true=>exact h rfl|false=>exact Le.fail _
theorem a2f {α β γ}(m:M α)(f)(g:β->M γ):M.bind (M.bind m f) g=M.bind m λa=>M.bind (f a) g:=by funext s;grind[M.bind]
theorem e8n {α β}(a)(f:α->M β):M.bind (M.pure a) f=f a:=wH rfl rfl
theorem b0c {β γ}(x a b c d)(g:β->M γ):M.bind (V3 x a b c d) g=V3 x (M.bind a g) (λi=>M.bind (b i) g) (M.bind c g) (λv=>M.bind (d v) g):=by cases x<;>rfl
theorem a7s {β x}{a a':M β}{b b' c c' d d'}(h1:x=.normal->Le a a')(h2:∀i,x=.exit i->Le (b i) (b' i))(h3:x=.ret->Le c c')(h4:∀v,x=.pan v->Le (d v) (d' v)):Le (V3 x a b c d) (V3 x a' b' c' d'):=by cases x with|normal=>exact h1 rfl|exit i=>exact h2 i rfl|ret=>exact h3 rfl|pan v=>exact h4 v rfl
theorem c9t {β γ r}{kn kp:Value->M γ}{kn' kp':Value->M β}{g}(h1:∀v,Le (kn v) (M.bind (kn' v) g))(h2:∀v,Le (kp v) (M.bind (kp' v) g)):Le (a1B r kn kp) (M.bind (a1B r kn' kp') g):=by cases r with|ret v=>exact h1 v|pan v=>exact h2 v
theorem b8M (fr W):O8 fr W=W.map (D5 fr):=a0N _ _
theorem b9G (v vs W):∀(i) (fr),a5L (v::vs) W (Nat.succ i) fr=a5L vs W i fr:=by induction W with|nil=>intro i fr;rfl|cons t W ih=>intro i fr;exact ih (Nat.succ i) _
theorem b5b (t W v vs fr):L9 (t::W) (v::vs) fr=L9 W vs (a4W fr t v):=b9G v vs W 0 _
theorem b6Y (W):∀(fr' fr),fr'.length=fr.length->∀t,(L9 W (O8 fr' W) fr)[t]?=if t∈W then fr'[t]? else fr[t]?:=by induction W with|nil=>grind[L9,a5L]|cons u W ih=>intro fr' fr hl t;have e:O8 fr' (u::W)=D5 fr' u::O8 fr' W:=rfl;rw[e,b5b,ih fr' (a4W fr u (D5 fr' u)) (by rw[b0f];grind) t];by_cases h1:t∈W;rw[vG h1,vG (vJ _ h1)];rw[vN h1,b0f,qZ];by_cases h2:u=t;subst h2;rw[vG rfl,vG um,a4n];grind;grind
theorem a3t {W fr' fr}(hl:fr'.length=fr.length)(h:∀t,t∉W->fr'[t]?=fr[t]?):L9 W (O8 fr' W) fr=fr':=by apply ui;simp_all[b6Y]
theorem b8G (vs W):∀(i) (fr),(a5L vs W i fr).length=fr.length:=by induction W with|nil=>intro i fr;rfl|cons u W ih=>intro i fr;show(a5L vs W (Nat.succ i) (a4W fr u (D5 vs i))).length=_;rw[ih,b0f];simp
theorem b9J (W vs fr):(L9 W vs fr).length=fr.length:=b8G vs W 0 fr
theorem a8n {α b}{m m':M α}(h:Le m m'):Le (bcase b m M.fail) m':=by cases b with|true=>exact h|false=>exact Le.fail _
section
variable {p:Program}{T:Tab}{call:J4}{pn:Bool}
theorem d3g {β γ fr o}{kn kp:Value->M γ}{kn' kp':Value->M β}{g}(h1:∀v,Le (kn v) (M.bind (kn' v) g))(h2:∀v,Le (kp v) (M.bind (kp' v) g)):Le (a4g p T o8 call fr o kn kp) (M.bind (a4g p T o8 call fr o kn' kp') g):=by
 have hs:∀m:M Value,Le (o8.bv γ m kn) (M.bind (o8.bv β m kn') g):=λm=>by show Le (M.bind m kn) (M.bind (M.bind m kn') g);rw[a2f];exact Le.bind (Le.refl _) h1
 unfold a4g;split;grind[Le.obind_bind];grind[Le.obind_bind];split;refine Le.obind_bind λga _=>?_;show Le (M.bind (call ga.1 ga.2) λr=>a1B r kn kp) (M.bind (M.bind (call ga.1 ga.2) λr=>a1B r kn' kp') g);rw[a2f];grind[Le.bind,Le.refl,c9t];exact hs _;exact Le.fail _;refine Le.obind_bind λv _=>?_;cases hb:a5u v with|true=>exact h2 v|false=>exact Le.fail _
 grind
theorem a5d (ops:List Oper)(o:Oper)(os:List Oper)(fr:List Value):a5s p T call ops (o::os) fr=match a1Y ops fr o with|true=>a4g p T o8 call fr o.op (λv=>a5s p T call ops os (Q3 fr o v)) (λv=>M.pure (.pan v,fr))|false=>a5s p T call ops os (Q3 fr o undef):=rfl
theorem d1s (cb){β}(o os fr)(k:Xc->List Value->M β):a0p p T cb pn call (o::os) fr k=a4g p T cb call fr o.op (λv=>a0p p T cb pn call os (Q3 fr o v) k) (λv=>bcase pn (k (.pan v) fr) M.fail):=rfl
theorem c4K {β}(ops g)(hw:∀(fr) (o),o.guard=g->(∀jb,g=some jb->∀t,a4A ops jb.1=some t->a1W jb.2 (D5 fr t)=true)->a1Y ops fr o=true):∀(os),(∀o∈os,o.guard=g)->(∀jb,g=some jb->∃t,a4A ops jb.1=some t/\t∉O1 os)->∀(fr),(∀jb,g=some jb->∀t,a4A ops jb.1=some t->a1W jb.2 (D5 fr t)=true)->∀(k k':Xc->List Value->M β),(∀x fr,Le (k x fr) (k' x fr))->Le (a0p p T o8 pn call os fr k) (M.bind (a5s p T call ops os fr) λr=>k' r.1 r.2):=by
 intro os;induction os with
  |nil=>intro _ _ fr _ k k' hk;exact hk _ _|cons o os ih=>
   intro ho hd fr hb k k' hk;rw[d1s,a5d,hw fr o (ho o um) hb];refine d3g (λv=>?_) (λv=>a8n (hk _ _));refine ih (λx hx=>ho x (vJ _ hx)) (λjb e=>?_) _ (λjb e t ht=>?_) k k' hk;grind[O1];obtain⟨t',h1,h2⟩:=hd jb e;rw[ht]at h1;cases h1;have h2':t∉(match o.dst with|some u=>u::O1 os|none=>O1 os):=h2;have e2:D5 (Q3 fr o v) t=D5 fr t:=by apply a5C;rw[a3b];rw[vN];grind[a2O]
   rw[e2];simp_all
theorem c8U {ops fr o}(h:o.guard=none):a1Y ops fr o=true:=by grind[a1Y]
theorem b8U {ops fr o jb}{t:Nat}(h:o.guard=some jb)(ht:a4A ops jb.1=some t):a1Y ops fr o=a1W jb.2 (D5 fr t):=by grind[a1Y]
theorem c3I (ops r):∀(l) (fr),a5s p T call ops (l++r) fr=M.bind (a5s p T call ops l fr) λx=>V3 x.1 (a5s p T call ops r x.2) (λid=>M.pure (.exit id,x.2)) (M.pure (.ret,x.2)) (λv=>M.pure (.pan v,x.2)):=by
 intro l;induction l with
  |nil=>intro fr;rfl|cons o l ih=>
   intro fr;rw[ut,a5d,a5d];cases a1Y ops fr o with
    |false=>exact ih _|true=>
     have step:∀(kn kp kn' kp':Value->M (Xc×List Value)) (g:(Xc×List Value)->M (Xc×List Value)),(∀v,kn v=M.bind (kn' v) g)->(∀v,kp v=M.bind (kp' v) g)->a4g p T o8 call fr o.op kn kp=M.bind (a4g p T o8 call fr o.op kn' kp') g:=by
      intro kn kp kn' kp' g h1 h2;have hs:∀m:M Value,o8.bv (Xc×List Value) m kn=M.bind (o8.bv (Xc×List Value) m kn') g:=λm=>by show M.bind m kn=M.bind (M.bind m kn') g;rw[a2f];congr 1;funext v;exact h1 v
      have ho:∀x:Option Value,M.obind x kn=M.bind (M.obind x kn') g:=λx=>by cases x with|none=>rfl|some v=>exact h1 v
      unfold a4g;split;exact ho _;exact ho _;split;rename_i f _;cases a4Z T fr f _ with|none=>rfl|some ga=>show M.bind (call ga.1 ga.2) (λr=>a1B r kn kp)=M.bind (M.bind (call ga.1 ga.2) λr=>a1B r kn' kp') g;rw[a2f];congr 1;funext r;cases r with|ret v=>exact h1 v|pan v=>exact h2 v
      exact hs _;rfl;rename_i x _;cases X5 T fr x with|none=>rfl|some v=>show M.guard (a5u v) (kp v)=M.bind (M.guard (a5u v) (kp' v)) g;cases a5u v with|true=>exact h2 v|false=>rfl
      grind
     exact step _ _ _ _ _ (λv=>ih _) (λv=>rfl)
theorem c4c {β fr o kn kp s s' b}{Q:β->Prop}(h:a4g p T o8 call fr o kn kp s=some (b,s'))(h1:∀v s,kn v s=some (b,s')->Q b)(h2:∀v s,kp v s=some (b,s')->Q b):Q b:=by
 have hs:∀m:M Value,o8.bv β m kn s=some (b,s')->Q b:=λm q=>by obtain⟨v,s1,_,q2⟩:=D6 (f:=kn) q;grind
 have ho:∀x:Option Value,M.obind x kn s=some (b,s')->Q b:=λx q=>by obtain⟨v,_,q2⟩:=H9 q;grind
 cases o with
  |move x=>exact ho _ h|assign x=>exact ho _ h|call c=>
   obtain⟨cal,args,ts⟩:=c;cases cal with
    |value f=>obtain⟨ga,_,q⟩:=H9 h;obtain⟨r,s1,_,q2⟩:=D6 (f:=λr=>a1B r kn kp) q;cases r with|ret v=>exact h1 v s1 q2|pan v=>exact h2 v s1 q2
    |builtin b=>exact hs _ h|invoke r m=>cases h
  |panic x=>obtain⟨v,_,q⟩:=H9 h;grind[I4]|_=>exact hs _ h
theorem a7n {o os t}:t∈O1 (o::os)↔t∈a2O o\/t∈O1 os:=by grind[O1,a2O]
theorem b6s (ops):∀(os) (fr) (s s') (x),a5s p T call ops os fr s=some (x,s')->x.2.length=fr.length/\∀t,t∉O1 os->x.2[t]?=fr[t]?:=by
 intro os;induction os with
  |nil=>intro fr s s' x h;obtain⟨rfl,rfl⟩:=x8 h;simp_all|cons o os ih=>
   intro fr s s' x h;have next:∀v s1,a5s p T call ops os (Q3 fr o v) s1=some (x,s')->x.2.length=fr.length/\∀t,t∉O1 (o::os)->x.2[t]?=fr[t]?:=by intro v s1 q;obtain⟨h1,h2⟩:=ih _ _ _ _ q;simp_all[a4o,a7n,a3b]
   rw[a5d]at h;cases hw:a1Y ops fr o with|false=>rw[hw]at h;grind|true=>rw[hw]at h;refine c4c (Q:=λb=>b.2.length=fr.length/\∀t,t∉O1 (o::os)->b.2[t]?=fr[t]?) h next (λv s1 q=>?_);obtain⟨rfl,rfl⟩:=x8 q;simp_all
theorem c9D (ops jb)(t:Nat)(ht:a4A ops jb.1=some t):∀(os),(∀o∈os,o.guard=some jb)->t∉O1 os->∀(fr),a1W jb.2 (D5 fr t)=false->a5s p T call ops os fr=M.pure (.normal,L9 (O1 os) (a0l (z8 (O1 os))) fr):=by
 intro os;induction os with
  |nil=>intro _ _ fr _;rfl|cons o os ih=>
   intro ho hd fr hb;rw[a5d,b8U (ho o um) ht,hb];rw[a7n,not_or]at hd;have e2:D5 (Q3 fr o undef) t=D5 fr t:=by apply a5C;rw[a3b,vN (λq=>hd.1 q.1)]
   simp only;rw[ih (λx hx=>ho x (vJ _ hx)) hd.2 _ (by rw[e2];exact hb)];congr 2;show L9 (O1 os) (a0l (z8 (O1 os))) (Q3 fr o undef)=L9 (match o.dst with|some u=>u::O1 os|none=>O1 os) (a0l (z8 (match o.dst with|some u=>u::O1 os|none=>O1 os))) fr;unfold Q3;cases o.dst<;>simp_all[b5b,a0l,z8]
theorem d3M {a b}(h:a4s a b=true):a=b:=by
 cases a with
  |none=>cases b with|none=>rfl|some b=>cases h
  |some a=>cases b with|none=>cases h|some b=>obtain⟨a1,a2⟩:=a;obtain⟨b1,b2⟩:=b;have h:(Nat.beq a1 b1&&(a2==b2))=true:=h;simp_all
theorem c3J (os):(a1X os).flatMap (·.2)=os/\∀g∈a1X os,∀o∈g.2,o.guard=g.1:=by induction os with|nil=>exact⟨rfl,λg hg=>by cases hg⟩|cons o os ih=>have e:a1X (o::os)=(match a1X os with|[]=>[(o.guard,[o])]|g::gs=>match a4s o.guard g.1 with|true=>(g.1,o::g.2)::gs|false=>(o.guard,[o])::g::gs):=rfl;rw[e];cases hg:a1X os with|nil=>rw[hg]at ih;simp_all|cons g gs=>rw[hg]at ih;simp only;cases hs:a4s o.guard g.1 with|true=>refine⟨by rw[<-ih.1];rfl,λg' h x hx=>?_⟩;simp only[uy]at h;rcases h with rfl|h;simp only[uy]at hx;rcases hx with rfl|hx;exact d3M hs;simp_all;grind|false=>refine⟨by rw[<-ih.1];rfl,λg' h x hx=>?_⟩;grind
theorem d4e {β}(ops):∀(gs),(∀g∈gs,∀o∈g.2,o.guard=g.1)->∀(fr) (k k':Xc->List Value->M β),(∀x fr,Le (k x fr) (k' x fr))->Le (a8g p T o8 pn call ops gs fr k) (M.bind (a5s p T call ops (gs.flatMap (·.2)) fr) λr=>k' r.1 r.2):=by
 intro gs;induction gs with
  |nil=>intro _ fr k k' hk;exact hk _ _|cons g gs ih=>
   intro hg fr k k' hk;obtain⟨gd,l⟩:=g;have hl:=hg _ um;have ih':=λfr=>ih (λg h=>hg g (vJ _ h)) fr k k' hk;show Le (match gd with|none=>a0p p T o8 pn call l fr λex fr'=>V3 ex (a8g p T o8 pn call ops gs fr' k) (λ_=>M.fail) M.fail λv=>k (.pan v) fr'|some jb=>M.obind (a4A ops jb.1) λt=>M.guard (!(a2V t (O1 l)))<|o8.bj β (bcase (a1W jb.2 (D5 fr t)) (a0p p T o8 pn call l fr λex fr'=>M.pure (ex,O8 fr' (O1 l))) (M.pure (.normal,a0l (z8 (O1 l))))) λex vs=>V3 ex (a8g p T o8 pn call ops gs (L9 (O1 l) vs fr) k) (λ_=>M.fail) M.fail λv=>bcase pn (k (.pan v) (L9 (O1 l) vs fr)) M.fail) (M.bind (a5s p T call ops (l++gs.flatMap (·.2)) fr) λr=>k' r.1 r.2);rw[c3I,a2f];cases gd with
    |none=>refine Le.trans (c4K ops none (λfr o h _=>c8U h) l hl (λjb e=>zk) fr (λjb e=>zk) _ (λx fr'=>V3 x (M.bind (a5s p T call ops (gs.flatMap (·.2)) fr') λr=>k' r.1 r.2) (λ_=>M.fail) M.fail λv=>k' (.pan v) fr') (λx fr'=>?_)) ?_;grind[a7s,Le.fail];refine Le.bind (Le.refl _) λr=>?_;rw[b0c];exact a7s (λ_=>Le.refl _) (λ_ _=>Le.fail _) (λ_=>Le.fail _) (λv _=>Le.refl _)|some jb=>
     dsimp only;cases ht:a4A ops jb.1 with
      |none=>exact Le.fail _|some t=>
       refine Le.guard λhm=>?_;have hm':t∉O1 l:=λq=>by rw[(b0A _ _).2 q]at hm;cases hm
       show Le (M.bind (bcase (a1W jb.2 (D5 fr t)) (a0p p T o8 pn call l fr λex fr'=>M.pure (ex,O8 fr' (O1 l))) (M.pure (.normal,a0l (z8 (O1 l))))) λr=>V3 r.1 (a8g p T o8 pn call ops gs (L9 (O1 l) r.2 fr) k) (λ_=>M.fail) M.fail λv=>bcase pn (k (.pan v) (L9 (O1 l) r.2 fr)) M.fail) _;cases hb:a1W jb.2 (D5 fr t)with|false=>rw[c9D ops jb t ht l hl hm' fr hb];exact ih' (L9 (O1 l) (a0l (z8 (O1 l))) fr)|true=>intro s r e;obtain⟨x,s1,e1,e2⟩:=D6 (s2:=r.2) (b:=r.1) e;have h1:=c4K (β:=Xc×List Value) ops (some jb) (λfr o h hq=>by rw[b8U h ht];simp_all) l hl (λjb' e=>zn) fr (λjb' e t' ht'=>zn) (λex fr'=>M.pure (ex,O8 fr' (O1 l))) (λex fr'=>M.pure (ex,O8 fr' (O1 l))) (λ_ _=>Le.refl _) s _ e1;obtain⟨y,s2,f1,f2⟩:=D6 h1;obtain⟨rfl,rfl⟩:=x8 f2;obtain⟨g1,g2⟩:=b6s ops l fr s _ y f1;refine a1r f1 ?_;simp only[]at e2;rw[a3t g1 g2]at e2;rw[b0c];refine a7s (λ_=>ih' _) (λ_ _=>Le.fail _) (λ_=>Le.fail _) (λv _=>a8n (hk _ _)) _ _ e2
end
end Go.V
end
noncomputable section
namespace Go.V
section
variable {p:Program}{T:Tab}{call:J4}{pn:Bool}
theorem c2X {ops os o}(h:o∈os){t}(ht:t∈a3C ops o):t∈a4E ops os:=by induction os with|nil=>cases h|cons x os ih=>show t∈E5 (a3C ops x) (a4E ops os);rw[E9,uf];grind
theorem d0x {l t}(h:t∈l):t∈a2Y l:=by induction l with|nil=>cases h|cons i l ih=>show t∈c3k i (a2Y l);unfold c3k;simp only[uy]at h;cases hm:a2V i (a2Y l)with|true=>rcases h with rfl|h;grind[b0A];grind|false=>grind
theorem a9Z {c}(ops):∀(os) (fr) (s s') (z),a2t p T c ops os fr s=some (z,s')->z.1.length=fr.length/\∀t,t∉O1 os->z.1[t]?=fr[t]?:=by
 intro os;induction os with
  |nil=>intro fr s s' z h;obtain⟨rfl,rfl⟩:=x8 h;simp_all|cons o os ih=>
   intro fr s s' z h;have key:∀(v:Value) (s1 s2:S) (y:List Value×List (List Nat×List Nat)),a2t p T c ops os (Q3 fr o v) s1=some (y,s2)->y.1.length=fr.length/\∀t,t∉O1 (o::os)->y.1[t]?=fr[t]?:=by intro v s1 s2 y hy;obtain⟨h1,h2⟩:=ih _ _ _ _ hy;simp_all[a4o,a7n,a3b]
   rw[a7L]at h;split at h;obtain⟨x,s1,_,h2⟩:=D6 h;obtain⟨y,s2,h3,h4⟩:=D6 h2;obtain⟨rfl,rfl⟩:=x8 h4;grind;obtain⟨y,s2,h3,h4⟩:=D6 h;obtain⟨rfl,rfl⟩:=x8 h4;grind
theorem c6w {c}(ops)(A:Nat->Prop):∀(os),(∀o∈os,∀t∈a3C ops o,A t)->∀(fr fr2),fr.length=fr2.length->(∀t,A t->D5 fr t=D5 fr2 t)->∀s y s',a2t p T c ops os fr s=some (y,s')->∃fr',a2t p T c ops os fr2 s=some ((fr',y.2),s')/\∀t,A t\/t∈O1 os->D5 y.1 t=D5 fr' t:=by
 intro os;induction os with
  |nil=>intro _ fr fr2 hl hA s y s' h;obtain⟨rfl,rfl⟩:=x8 h;exact⟨fr2,rfl,λt ht=>ht.elim (hA t) (λq=>ze)⟩|cons o os ih=>
   intro ho fr fr2 hl hA s y s' h;obtain⟨c1,c2⟩:=b4V (P:=p) (T:=T) (call:=c) (ops:=ops) (o:=o) (fr:=fr) (fr2:=fr2) (λt ht=>hA t (ho o um t ht));have key:∀(v:Value) (s1 s2:S) (z:List Value×List (List Nat×List Nat)),a2t p T c ops os (Q3 fr o v) s1=some (z,s2)->∃fr',a2t p T c ops os (Q3 fr2 o v) s1=some ((fr',z.2),s2)/\∀t,A t\/t∈O1 (o::os)->D5 z.1 t=D5 fr' t:=by
    intro v s1 s2 z hz;have hput:∀t,A t\/t∈a2O o->D5 (Q3 fr o v) t=D5 (Q3 fr2 o v) t:=by intro t ht;rw[a4n,a4n,a3b,a3b,hl];by_cases hc:t∈a2O o/\t<fr2.length;rw[vG hc,vG hc];rw[vN hc,vN hc];grind[a4n]
    obtain⟨fr',e1,e4⟩:=ih (λx hx=>ho x (vJ _ hx)) (Q3 fr o v) (Q3 fr2 o v) (by rw[a4o,a4o,hl]) (λt ht=>hput t (Or.inl ht)) s1 z s2 hz;refine⟨fr',e1,λt ht=>?_⟩;by_cases hc:A t\/t∈O1 os;grind;rw[not_or]at hc;have ht:t∈a2O o:=by grind[a7n]
    rw[a5C ((a9Z ops os _ _ _ _ hz).2 t hc.2),a5C ((a9Z ops os _ _ _ _ e1).2 t hc.2)];simp_all
   rw[a7L]at h;rw[a7L,<-c2,<-c1];cases hw:a1Y ops fr o with|true=>rw[hw]at h;simp only[qD]at h⊢;obtain⟨x,s1,h1,h2⟩:=D6 h;obtain⟨z,s2,h3,h4⟩:=D6 h2;obtain⟨rfl,rfl⟩:=x8 h4;obtain⟨fr',e1,e2⟩:=key _ _ _ z h3;exact⟨fr',a1r h1 (a1r e1 rfl),e2⟩|false=>rw[hw]at h;simp only[uo,tN]at h⊢;obtain⟨z,s2,h3,h4⟩:=D6 h;obtain⟨rfl,rfl⟩:=x8 h4;obtain⟨fr',e1,e2⟩:=key _ _ _ z h3;exact⟨fr',a1r e1 rfl,e2⟩
theorem b6u (n):(a0l n).length=n:=by induction n<;>first|rfl|grind[a0l]
theorem c6R {β}(ops draw fr)(k k':Xc->List Value->M β)(hk:∀x fr,Le (k x fr) (k' x fr)):Le (b8A p T o8 pn call ops draw fr k) (M.bind (b4o p T call ops draw fr) λr=>k' r.1 r.2):=by
 cases draw with
  |false=>obtain⟨h1,h2⟩:=c3J ops;have:=d4e (p:=p) (T:=T) (call:=call) (pn:=pn) (β:=β) ops (a1X ops) h2 fr k k' hk;rw[h1]at this;exact this|true=>
   intro s r h;have h:M.bind (b7n p T call ops (z8 fr) (a2Y (a4E ops ops)) (O8 fr (a2Y (a4E ops ops))) (O1 ops)) (λx=>k .normal (L9 (O1 ops) x.2 fr)) s=some r:=h;obtain⟨x,s1,h1,h2⟩:=D6 (s2:=r.2) (b:=r.1) h;unfold b7n at h1;obtain⟨y,s2,h3,h4⟩:=D6 h1;obtain⟨h5,h6⟩:=I4 h4;obtain⟨rfl,rfl⟩:=x8 h6;have hlen:(L9 (a2Y (a4E ops ops)) (O8 fr (a2Y (a4E ops ops))) (a0l (z8 fr))).length=fr.length:=by rw[b9J,b6u,G8]
   obtain⟨fr',e1,e2⟩:=c6w (p:=p) (T:=T) ops (λt=>t∈a2Y (a4E ops ops)) ops (λo ho t ht=>d0x (c2X ho ht)) _ fr hlen (λt ht=>by apply a5C;rw[b6Y _ _ _ (by rw[b6u,G8]),vG ht]) s y s1 h3;show M.bind (M.bind (a2t p T (a2a call) ops ops fr) λy=>M.guard (a3f ops (a4N ops y.2) [] [] 0)<|M.pure (Xc.normal,y.1)) (λr=>k' r.1 r.2) s=some r;refine a1r (a:=(Xc.normal,fr')) (s1:=s1) (a1r e1 ?_) ?_;simp_all[M.guard,M.pure];have e3:L9 (O1 ops) (O8 y.1 (O1 ops)) fr=fr':=by
    have e4:O8 y.1 (O1 ops)=O8 fr' (O1 ops):=by rw[b8M,b8M];simp_all
    obtain⟨f1,f2⟩:=a9Z ops ops fr s s1 _ e1;rw[e4];exact a3t f1 f2
   have h2:k .normal (L9 (O1 ops) (O8 y.1 (O1 ops)) fr) s1=some r:=h2;rw[e3]at h2;exact hk _ _ _ _ h2
theorem b9L (ops draw fr s s' x)(h:b4o p T call ops draw fr s=some (x,s')):x.2.length=fr.length/\∀t,t∉O1 ops->x.2[t]?=fr[t]?:=by cases draw with|false=>exact b6s ops ops fr s s' x h|true=>have h:M.bind (a2t p T (a2a call) ops ops fr) (λy=>M.guard (a3f ops (a4N ops y.2) [] [] 0)<|M.pure (Xc.normal,y.1)) s=some (x,s'):=h;obtain⟨y,s2,h3,h4⟩:=D6 h;obtain⟨_,h6⟩:=I4 h4;obtain⟨rfl,rfl⟩:=x8 h6;grind[a9Z]
theorem b9x {β v}{x y:M β}{s r}(h:a5Z v x y s=some r):(v=.bool true/\x s=some r)\/(v=.bool false/\y s=some r):=by
 cases v with
  |bool b=>cases b with|true=>exact Or.inl ⟨rfl,h⟩|false=>exact Or.inr ⟨rfl,h⟩
  |_=>cases h
theorem Z5 {σ}(body:σ->M (Xc×σ))(n x):R7 body (n+1) x=M.bind (body x) λr=>V3 r.1 (R7 body n r.2) (λid=>M.pure (.exit id,r.2)) (M.pure (.ret,r.2)) (λv=>M.pure (.pan v,r.2)):=rfl
theorem b5g (N):∀(c) (fr) (s s') (x),a0m p T N call c fr s=some (x,s')->x.2.length=fr.length/\∀t,t∉a0G c->x.2[t]?=fr[t]?:=by
 intro c;induction c with
  |skip=>intro fr s s' x h;obtain⟨rfl,rfl⟩:=x8 h;simp_all|region id ops draw=>intro fr s s' x h;exact b9L _ _ _ _ _ _ h|seq a b iha ihb=>intro fr s s' x h;have h:M.bind (a0m p T N call a fr) (λr=>V3 r.1 (a0m p T N call b r.2) (λid=>M.pure (.exit id,r.2)) (M.pure (.ret,r.2)) (λv=>M.pure (.pan v,r.2))) s=some (x,s'):=h;obtain⟨r,s1,h1,h2⟩:=D6 h;obtain⟨f1,f2⟩:=iha _ _ _ _ h1;have hw:∀t,t∉a0G (.seq a b)->t∉a0G a/\t∉a0G b:=λt ht=>xG;obtain⟨rx,rf⟩:=r;cases rx with|normal=>obtain⟨g1,g2⟩:=ihb _ _ _ _ h2;simp_all|_=>obtain⟨rfl,rfl⟩:=x8 h2;exact⟨f1,λt ht=>f2 t (hw t ht).1⟩
  |cond o a b iha ihb=>intro fr s s' x h;have hw:∀t,t∉a0G (.cond o a b)->t∉a0G a/\t∉a0G b:=λt ht=>xG;obtain⟨v,_,h1⟩:=H9 h;grind[b9x]|block id b ih=>intro fr s s' x h;obtain⟨r,s1,h1,h2⟩:=D6 h;obtain⟨rfl,rfl⟩:=x8 h2;exact ih _ _ _ r h1|loop b ih=>
   intro fr s s' x h;have h:R7 (a0m p T N call b) N fr s=some (x,s'):=h;have key:∀n fr s,R7 (a0m p T N call b) n fr s=some (x,s')->x.2.length=fr.length/\∀t,t∉a0G b->x.2[t]?=fr[t]?:=by intro n;induction n with|zero=>intro fr s h;cases h|succ n ihn=>intro fr s h;rw[Z5]at h;obtain⟨r,s1,h1,h2⟩:=D6 h;obtain⟨f1,f2⟩:=ih _ _ _ _ h1;obtain⟨rx,rf⟩:=r;cases rx with|normal=>obtain⟨g1,g2⟩:=ihn _ _ h2;simp_all|_=>obtain⟨rfl,rfl⟩:=x8 h2;exact⟨f1,f2⟩
   exact key N fr s h|exit id=>intro fr s s' x h;obtain⟨rfl,rfl⟩:=x8 h;simp_all|ret=>intro fr s s' x h;obtain⟨rfl,rfl⟩:=x8 h;simp_all|_=>intro fr s s' x h;cases h
theorem b8Z {l m}(h:b0B l m=true){t}(ht:t∉m):t∉l:=λq=>ht ((b0A _ _).1 ((M5 _ _).1 h t q))
theorem c7w {β E id}{k k':Xc->M β}(h:∀x,Le (k x) (k' x)):Le (a4k E id k) (k' (.exit id)):=by induction E with|nil=>exact Le.fail _|cons e E ih=>show Le (bcase (Nat.beq id e) (k (.exit e)) (a4k E id k)) _;cases hb:Nat.beq id e with|true=>rw[wK hb];exact h _|false=>exact ih
theorem c2y {β E n r ex}{k k':Xc->M β}(h:∀x,Le (k x) (k' x)):Le (b4N pn E n r ex k) (k' ex):=by unfold b4N;cases ex with|normal=>exact a8n (h _)|exit id=>exact c7w h|ret=>exact a8n (h _)|pan v=>exact a8n (h _)
theorem d2l (N):∀(c) (pl) (β) (fr) (k k':Xc->List Value->M β),(∀x fr,Le (k x fr) (k' x fr))->Le (N9 p T o8 pn N call c pl β fr k) (M.bind (a0m p T N call c fr) λr=>k' r.1 r.2):=by
 intro c;induction c with
  |skip=>intro pl β fr k k' hk;exact hk _ _|region id ops draw=>intro pl β fr k k' hk;exact c6R _ _ _ _ _ hk|seq a b iha ihb=>intro pl β fr k k' hk;have hb:∀fr,Le (N9 p T o8 pn N call b pl.b β fr k) (M.bind (a0m p T N call b fr) λr=>k' r.1 r.2):=λfr=>ihb pl.b β fr k k' hk;show Le _ (M.bind (M.bind (a0m p T N call a fr) λr=>V3 r.1 (a0m p T N call b r.2) (λid=>M.pure (.exit id,r.2)) (M.pure (.ret,r.2)) (λv=>M.pure (.pan v,r.2))) λr=>k' r.1 r.2);rw[a2f];unfold N9;cases hj:pl.j with|none=>refine Le.trans (iha pl.a β fr _ (λex fr'=>V3 ex (M.bind (a0m p T N call b fr') λr=>k' r.1 r.2) (λid=>k' (.exit id) fr') (k' .ret fr') (λv=>k' (.pan v) fr')) (λx fr'=>?_)) ?_;grind[a7s];refine Le.bind (Le.refl _) λr=>?_;rw[b0c];exact a7s (λ_=>Le.refl _) (λ_ _=>Le.refl _) (λ_=>Le.refl _) (λv _=>Le.refl _)|some W=>refine Le.guard λhW=>?_;intro s r h;have h:M.bind (N9 p T o8 pn N call a pl.a (Xc×List Value) fr λex fr'=>M.pure (ex,O8 fr' W)) (λx=>b4N pn (a2Y (a2E a)) true (hasRet a) x.1 λy=>V3 y (N9 p T o8 pn N call b pl.b β (L9 W x.2 fr) k) (λid=>k (.exit id) (L9 W x.2 fr)) (k .ret (L9 W x.2 fr)) (λv=>k (.pan v) (L9 W x.2 fr))) s=some r:=h;obtain⟨x,s1,h1,h2⟩:=D6 (s2:=r.2) (b:=r.1) h;have h3:=iha pl.a (Xc×List Value) fr (λex fr'=>M.pure (ex,O8 fr' W)) (λex fr'=>M.pure (ex,O8 fr' W)) (λ_ _=>Le.refl _) s _ h1;obtain⟨y,s2,f1,f2⟩:=D6 h3;obtain⟨rfl,rfl⟩:=x8 f2;obtain⟨g1,g2⟩:=b5g N a fr s _ y f1;refine a1r f1 ?_;simp only[]at h2;rw[a3t g1 (λt ht=>g2 t (b8Z hW ht))]at h2;rw[b0c];exact c2y (k':=λz=>V3 z (M.bind (a0m p T N call b y.2) λr=>k' r.1 r.2) (λid=>k' (.exit id) y.2) (k' .ret y.2) (λv=>k' (.pan v) y.2)) (λx=>a7s (λ_=>hb _) (λ_ _=>hk _ _) (λ_=>hk _ _) (λv _=>hk _ _)) _ _ h2
  |cond o a b iha ihb=>
   intro pl β fr k k' hk;show Le (M.obind (X5 T fr o) λv=>a5Z v (N9 p T o8 pn N call a pl.a β fr k) (N9 p T o8 pn N call b pl.b β fr k)) (M.bind (M.obind (X5 T fr o) λv=>a5Z v (a0m p T N call a fr) (a0m p T N call b fr)) λr=>k' r.1 r.2);refine Le.obind_bind λv _=>?_;cases v with
    |bool t=>cases t with|true=>exact iha pl.a β fr k k' hk|false=>exact ihb pl.b β fr k k' hk
    |_=>exact Le.fail _
  |block id b ih=>intro pl β fr k k' hk;show Le (N9 p T o8 pn N call b pl.a β fr λex fr'=>k (a6c id ex) fr') (M.bind (M.bind (a0m p T N call b fr) λr=>M.pure (a6c id r.1,r.2)) λr=>k' r.1 r.2);rw[a2f];exact ih pl.a β fr _ (λex fr'=>k' (a6c id ex) fr') (λx fr=>hk _ _)|loop b ih=>
   intro pl β fr k k' hk;refine Le.guard λhW=>?_;intro s r h;have h:M.bind (R7 (λxs=>N9 p T o8 pn N call b pl.a (Xc×List Value) (L9 pl.w xs fr) λex fr'=>M.pure (ex,O8 fr' pl.w)) N (O8 fr pl.w)) (λx=>b4N pn (a2Y (a2E b)) false (hasRet b) x.1 λy=>k y (L9 pl.w x.2 fr)) s=some r:=h;obtain⟨x,s1,h1,h2⟩:=D6 (s2:=r.2) (b:=r.1) h;have key:∀n (fr0:List Value) (s s1:S) (x:Xc×List Value),fr0.length=fr.length->(∀t,t∉pl.w->fr0[t]?=fr[t]?)->R7 (λxs=>N9 p T o8 pn N call b pl.a (Xc×List Value) (L9 pl.w xs fr) λex fr'=>M.pure (ex,O8 fr' pl.w)) n (O8 fr0 pl.w) s=some (x,s1)->∃fr1,R7 (a0m p T N call b) n fr0 s=some ((x.1,fr1),s1)/\L9 pl.w x.2 fr=fr1:=by intro n;induction n with|zero=>intro fr0 s s1 x _ _ h;cases h|succ n ihn=>intro fr0 s s1 x hl hA h;rw[Z5]at h;obtain⟨y,s2,e1,e2⟩:=D6 h;have e3:=ih pl.a (Xc×List Value) (L9 pl.w (O8 fr0 pl.w) fr) (λex fr'=>M.pure (ex,O8 fr' pl.w)) (λex fr'=>M.pure (ex,O8 fr' pl.w)) (λ_ _=>Le.refl _) s _ e1;rw[a3t hl hA]at e3;obtain⟨z,s3,f1,f2⟩:=D6 e3;obtain⟨rfl,rfl⟩:=x8 f2;obtain⟨g1,g2⟩:=b5g N b fr0 s _ z f1;have hz1:z.2.length=fr.length:=g1.trans hl;have hz2:∀t,t∉pl.w->z.2[t]?=fr[t]?:=λt ht=>(g2 t (b8Z hW ht)).trans (hA t ht);obtain⟨zx,zf⟩:=z;cases zx with|normal=>obtain⟨fr1,q1,q2⟩:=ihn zf _ _ x hz1 hz2 e2;exact⟨fr1,by rw[Z5];exact a1r f1 q1,q2⟩|exit i=>obtain⟨rfl,rfl⟩:=x8 e2;exact⟨zf,by rw[Z5];exact a1r f1 rfl,a3t hz1 hz2⟩|ret=>obtain⟨rfl,rfl⟩:=x8 e2;exact⟨zf,by rw[Z5];exact a1r f1 rfl,a3t hz1 hz2⟩|pan v=>obtain⟨rfl,rfl⟩:=x8 e2;exact⟨zf,by rw[Z5];exact a1r f1 rfl,a3t hz1 hz2⟩
   obtain⟨fr1,q1,q2⟩:=key N fr s s1 x rfl (λ_ _=>rfl) h1;have h2:=c2y (k':=λy=>k' y (L9 pl.w x.2 fr)) (λy=>hk y _) _ _ h2;rw[q2]at h2;exact a1r (a:=(x.1,fr1)) q1 h2|exit id=>intro pl β fr k k' hk;exact hk _ _|ret=>intro pl β fr k k' hk;exact hk _ _|_=>intro pl β fr k k' hk;exact Le.fail _
end
end Go.V
end
section
namespace Go.V
open Go.RowKit (Below)
section
variable {P:Program}{T:Tab}{B0:Nat}{w0:Base}{w:World}{K:KM}{s s':S}{a:Act}{fr:List Value}{v:Value}
theorem a9s {β α}(l)(k:List β->α):fList l k=k l:=by induction l generalizing k with|nil=>rfl|cons x l ih=>exact ih _
theorem b4f {x t}(r:VR K x (.bool t)):x=.bool t:=by generalize hv:Value.bool t=z at r;cases r<;>simp_all
theorem b3q.from {s1 w1 K1 ds ex fr' e a' w'}(h1:Step B0 w0 K s1 w1 K1)(hc:s1.c<=s'.c)(h:b3q B0 w0 K1 s' ds ex fr' e a' w'):b3q B0 w0 K s' ds ex fr' e a' w':=by obtain⟨K',st,r,d,q⟩:=h;exact⟨K',h1.trans st hc,r,d,q⟩
theorem c2p (hT:TabOk P T)(hM:P.follows .mixedOrders=true){call}(hC:a5c P T B0 w0 call)(hF:∀f vs,Fr (call f vs))(n):(∀c fr s ex fr' s' K a w Q,a6W P T call n c fr s=some ((ex,fr'),s')->Sim B0 w0 K s.h w->a0t K s s'->VRL K a.tmps.toList fr->GK T K->(∀e a' w',b3q B0 w0 K s' a.defers ex fr' e a' w'->Q e a' w')->c.wp P Q a w)/\(∀b fr s ex fr' s' K a w Q,a6W P T call n (.loop b) fr s=some ((ex,fr'),s')->Sim B0 w0 K s.h w->a0t K s s'->VRL K a.tmps.toList fr->GK T K->(∀e a' w',b3q B0 w0 K s' a.defers ex fr' e a' w'->Q e a' w')->Code.rounds P b Q n a w):=by
 induction n with
  |zero=>constructor;intro c fr s ex fr' s' K a w Q h;cases h;intro b fr s ex fr' s' K a w Q h;cases h|succ n ih=>
   obtain⟨ihA,ihB⟩:=ih;have hFe:∀c fr,Fr (a6W P T call n c fr):=Fr.exec P T hF n;have hB:∀b fr s ex fr' s' K a w Q,a6W P T call (n+1) (.loop b) fr s=some ((ex,fr'),s')->Sim B0 w0 K s.h w->a0t K s s'->VRL K a.tmps.toList fr->GK T K->(∀e a' w',b3q B0 w0 K s' a.defers ex fr' e a' w'->Q e a' w')->Code.rounds P b Q (n+1) a w:=by intro b fr s ex fr' s' K a w Q h S F hf hg hq;have h1:fList fr (λfr=>M.bind (a6W P T call n b fr) λr=>match r.1 with|.normal=>a6W P T call n (.loop b) r.2|.exit id=>M.pure (.exit id,r.2)|.ret=>M.pure (.ret,r.2)) s=some ((ex,fr'),s'):=h;rw[a9s]at h1;obtain⟨⟨x1,fr1⟩,s1,h2,h3⟩:=D6 h1;show b.wp P (Exit.then (Code.rounds P b Q n) Q) a w;cases x1 with|normal=>have h3:a6W P T call n (.loop b) fr1 s1=some ((ex,fr'),s'):=h3;have hle:=(hFe _ _).le h3;refine ihA b fr s .normal fr1 s1 K a w _ h2 S (F.left hle) hf hg λe a' w' L=>?_;obtain⟨K1,st,r1,d1,e1⟩:=L;have e1:e=.normal:=e1;subst e1;show Code.rounds P b Q n a' w';exact ihB b fr1 s1 ex fr' s' K1 a' w' Q h3 st.sim (F.right (hFe _ _) h2) r1 (hg.mono st.le) λe a2 w2 L=>hq e a2 w2 (b3q.from st hle (d1▸L))|exit id=>have h3:M.pure (Ex.exit id,fr1) s1=some ((ex,fr'),s'):=h3;obtain⟨e,rfl⟩:=x8 h3;cases e;refine ihA b fr s _ _ _ K a w _ h2 S F hf hg λe a' w' L=>?_;have he:e=.exit id:=L.choose_spec.2.2.2;subst he;exact hq _ _ _ L|ret=>have h3:M.pure (Ex.ret,fr1) s1=some ((ex,fr'),s'):=h3;obtain⟨e,rfl⟩:=x8 h3;cases e;refine ihA b fr s _ _ _ K a w _ h2 S F hf hg λe a' w' L=>?_;have he:e=.ret:=L.choose_spec.2.2.2;subst he;exact hq _ _ _ L
   refine⟨λc fr s ex fr' s' K a w Q h S F hf hg hq=>?_,hB⟩;have h0:c7P P T call (a6W P T call n) c fr s=some ((ex,fr'),s'):=h;cases c with
    |skip=>have h0:M.pure (Ex.normal,fr) s=some ((ex,fr'),s'):=h0;obtain⟨e,rfl⟩:=x8 h0;cases e;exact wp_skip (hq _ _ _ ⟨K,Step.same S rfl,hf,rfl,rfl⟩)|region id ops draw=>have h0:region P T call ops.toList draw fr s=some ((ex,fr'),s'):=h0;cases draw with|false=>have h0:M.bind (a6d P T call ops.toList ops.toList fr) (λfr'=>M.pure (Ex.normal,fr')) s=some ((ex,fr'),s'):=h0;obtain⟨fr1,s1,h1,h2⟩:=D6 h0;obtain⟨e,rfl⟩:=x8 h2;cases e;refine wp_region ?_;rw[pz];exact c8T hT hC hF ops ops.size 0 fr _ s _ K a w zq zo S F hf hg λa' w' K' st r d=>hq _ _ _ ⟨K',st,r,d,rfl⟩|true=>have h0:M.bind (a2t P T call ops.toList ops.toList fr) (λy=>M.guard (a3f ops.toList (a4N ops.toList y.2) [] [] 0)<|M.pure (Ex.normal,y.1)) s=some ((ex,fr'),s'):=h0;obtain⟨⟨fr1,feet⟩,s1,h1,h2⟩:=D6 h0;obtain⟨hok,h3⟩:=I4 h2;obtain⟨e,rfl⟩:=x8 h3;cases e;exact b5e hT hM hC hF ops h1 hok S F hf hg λa' w' K' st r d=>hq _ _ _ ⟨K',st,r,d,rfl⟩
    |seq x y=>have h0:M.bind (a6W P T call n x fr) (λr=>match r.1 with|.normal=>a6W P T call n y r.2|.exit id=>M.pure (.exit id,r.2)|.ret=>M.pure (.ret,r.2)) s=some ((ex,fr'),s'):=h0;obtain⟨⟨x1,fr1⟩,s1,h2,h3⟩:=D6 h0;refine wp_seq ?_;cases x1 with|normal=>have h3:a6W P T call n y fr1 s1=some ((ex,fr'),s'):=h3;have hle:=(hFe _ _).le h3;refine ihA x fr s .normal fr1 s1 K a w _ h2 S (F.left hle) hf hg λe a' w' L=>?_;obtain⟨K1,st,r1,d1,e1⟩:=L;have e1:e=.normal:=e1;subst e1;exact ihA y fr1 s1 ex fr' s' K1 a' w' Q h3 st.sim (F.right (hFe _ _) h2) r1 (hg.mono st.le) λe a2 w2 L=>hq e a2 w2 (b3q.from st hle (d1▸L))|exit id=>have h3:M.pure (Ex.exit id,fr1) s1=some ((ex,fr'),s'):=h3;obtain⟨e,rfl⟩:=x8 h3;cases e;refine ihA x fr s _ _ _ K a w _ h2 S F hf hg λe a' w' L=>?_;have he:e=.exit id:=L.choose_spec.2.2.2;subst he;exact hq _ _ _ L|ret=>have h3:M.pure (Ex.ret,fr1) s1=some ((ex,fr'),s'):=h3;obtain⟨e,rfl⟩:=x8 h3;cases e;refine ihA x fr s _ _ _ K a w _ h2 S F hf hg λe a' w' L=>?_;have he:e=.ret:=L.choose_spec.2.2.2;subst he;exact hq _ _ _ L
    |cond x c1 c2=>
     have h0:M.obind (X5 T fr x) (λv=>match v with
      |.bool t=>match t with|true=>a6W P T call n c1 fr|false=>a6W P T call n c2 fr
      |_=>M.fail) s=some ((ex,fr'),s'):=h0;obtain⟨u,e1,h1⟩:=H9 h0;have r:=O3 hf hg e1;cases u with
      |bool t=>have hb:=b4f r;cases t<;>first|rfl|grind[wp_cond_true,wp_cond_false]
      |_=>cases h1
    |block id b=>
     have h0:M.bind (a6W P T call n b fr) (λr=>match r.1 with
      |.normal=>M.pure (.normal,r.2)|.exit id'=>match Nat.beq id' id with|true=>M.pure (.normal,r.2)|false=>M.pure (.exit id',r.2)
      |.ret=>M.pure (.ret,r.2)) s=some ((ex,fr'),s'):=h0;obtain⟨⟨x1,fr1⟩,s1,h2,h3⟩:=D6 h0;refine wp_block ?_;cases x1 with
      |normal=>have h3:M.pure (Ex.normal,fr1) s1=some ((ex,fr'),s'):=h3;obtain⟨e,rfl⟩:=x8 h3;cases e;refine ihA b fr s _ _ _ K a w _ h2 S F hf hg λe a' w' L=>?_;have he:e=.normal:=L.choose_spec.2.2.2;subst he;exact hq _ _ _ L|exit id'=>have h3:(match Nat.beq id' id with|true=>M.pure (Ex.normal,fr1)|false=>M.pure (Ex.exit id',fr1)) s1=some ((ex,fr'),s'):=h3;cases hb:Nat.beq id' id with|true=>rw[hb]at h3;obtain⟨e,rfl⟩:=x8 h3;cases e;refine ihA b fr s _ _ _ K a w _ h2 S F hf hg λe a' w' L=>?_;obtain⟨K1,st,r1,d1,e1⟩:=L;have e1:e=.exit id':=e1;subst e1;show(if id'=id then Q .normal a' w' else Q (.exit id') a' w');rw[vG (wK hb)];exact hq _ _ _ ⟨K1,st,r1,d1,rfl⟩|false=>rw[hb]at h3;obtain⟨e,rfl⟩:=x8 h3;cases e;refine ihA b fr s _ _ _ K a w _ h2 S F hf hg λe a' w' L=>?_;have he:e=.exit id':=L.choose_spec.2.2.2;subst he;show(if id'=id then Q .normal a' w' else Q (.exit id') a' w');rw[vN (λq=>zn)];simp_all
      |ret=>have h3:M.pure (Ex.ret,fr1) s1=some ((ex,fr'),s'):=h3;obtain⟨e,rfl⟩:=x8 h3;cases e;refine ihA b fr s _ _ _ K a w _ h2 S F hf hg λe a' w' L=>?_;have he:e=.ret:=L.choose_spec.2.2.2;subst he;exact hq _ _ _ L
    |loop b=>exact nR (n+1) (hB b fr s ex fr' s' K a w Q h S F hf hg hq)|exit id=>have h0:M.pure (Ex.exit id,fr) s=some ((ex,fr'),s'):=h0;obtain⟨e,rfl⟩:=x8 h0;cases e;exact wp_exit (hq _ _ _ ⟨K,Step.same S rfl,hf,rfl,rfl⟩)|ret=>have h0:M.pure (Ex.ret,fr) s=some ((ex,fr'),s'):=h0;obtain⟨e,rfl⟩:=x8 h0;cases e;exact wp_ret (hq _ _ _ ⟨K,Step.same S rfl,hf,rfl,rfl⟩)|_=>cases h0
def c0J (tmps:Array Value):ResultVar->Sem Value|.tmp t=>pure (tmps.getD t undef)|.cell a t=>do loadVar t (<-asAddr (tmps.getD a undef))
theorem c1q (hT:TabOk P T){tmps}(hf:VRL K tmps.toList fr):∀(rs) (vs) (s s'),a3Q T fr rs s=some (vs,s')->Sim B0 w0 K s.h w->s'.h=s.h/\s'.c=s.c/\∃vs',(rs.mapM (c0J tmps)).run P w=.ok vs' w/\VRL K vs' vs:=by
 have hget:∀t,VR K (tmps.getD t undef) (D5 fr t):=by intro t;have r:=hf.lget t;rw[a4n tmps.toList,a8q]at r;rw[rF];exact r
 intro rs;induction rs with
  |nil=>intro vs s s' h S;have h:M.pure ([]:List Value) s=some (vs,s'):=h;obtain⟨e,rfl⟩:=x8 h;cases e;exact⟨rfl,rfl,[],rfl,⟨rfl,λi v' v q=>by simp at q⟩⟩|cons r rs ih=>
   intro vs s s' h S;have cons:∀{x' x:Value} {ys' ys:List Value},VR K x' x->VRL K ys' ys->VRL K (x'::ys') (x::ys):=by intro x' x ys' ys r1 r2;refine⟨by simp[r2.len],λi v' v h1 h2=>?_⟩;cases i with|zero=>simp_all|succ i=>exact r2.at_ i v' v zo zo
   cases r with|tmp t=>have h:M.bind (a3Q T fr rs) (λvs=>M.pure (D5 fr t::vs)) s=some (vs,s'):=h;obtain⟨ys,s1,h1,h2⟩:=D6 h;obtain⟨e,rfl⟩:=x8 h2;grind[c0J,Sem.run_bind,Sem.run_pure,Result.andThen_ok]|cell ad t=>have h:a0C (D5 fr ad) (λad=>M.bind (a4R T t ad) λv=>M.bind (a3Q T fr rs) λvs=>M.pure (v::vs)) s=some (vs,s'):=h;obtain⟨adr,e0,h⟩:=a3i h;obtain⟨u,s1,h1,h2⟩:=D6 h;obtain⟨ys,s2,h3,h4⟩:=D6 h2;obtain⟨e,rfl⟩:=x8 h4;cases e;have r0:=hget ad;rw[e0]at r0;obtain⟨ad',e1,r1⟩:=a9x r0;obtain⟨u',p1,p2,p3,p4⟩:=b8R hT h1 S r1;obtain⟨q1,q2,vs',q3,q4⟩:=ih ys _ _ h3 (by rw[p3];exact S);simp_all[c0J,asAddr]
theorem b7a (hT:TabOk P T){fn ex fr' tmps}(h:b1P T fn (ex,fr') s=some (v,s'))(hf:VRL K tmps.toList fr')(S:Sim B0 w0 K s.h w):(∀id,ex≠.exit id)/\s'.h=s.h/\s'.c=s.c/\∃v',(results fn tmps).run P w=.ok v' w/\VR K v' v:=by
 have key:∀h:M.bind (a3Q T fr' fn.results.toList) (λvs=>M.pure (a8a vs)) s=some (v,s'),s'.h=s.h/\s'.c=s.c/\∃v',(results fn tmps).run P w=.ok v' w/\VR K v' v:=by intro h;obtain⟨vs,s1,h1,h2⟩:=D6 h;obtain⟨e,rfl⟩:=x8 h2;cases e;obtain⟨q1,q2,vs',q3,q4⟩:=c1q hT hf _ _ _ _ h1 S;refine⟨q1,q2,(if h:vs'.toArray.size=1 then vs'.toArray[0]else .tuple vs'.toArray),?_,?_⟩;show(do let vs<-fn.results.mapM (c0J tmps);pure (if h:vs.size=1 then vs[0]else .tuple vs):Sem Value).run P w=_;rw[Array.mapM_eq_mapM_toList];simp_all;match vs,vs',q4 with|[],[],_=>exact .tuple rfl (λi v' v q=>by simp at q)|[x],[x'],q4=>exact q4.at_ 0 x' x rfl rfl|x::y::l,x'::y'::l',q4=>exact .tuple q4.len q4.at_|[],_::_,q4=>exact absurd q4.len zq|_::_,[],q4=>exact absurd q4.len zq|[_],_::_::_,q4=>exact absurd q4.len zq|_::_::_,[_],q4=>exact absurd q4.len zq
 cases ex with|exit id=>cases h|normal=>exact⟨λ_ q=>ze,key h⟩|ret=>exact⟨λ_ q=>ze,key h⟩
def c0m (P:Program)(T:Tab)(B0:Nat)(w0:Base)(ext:Nat->Option (List Value->M Value)):Prop:=(∀f g,ext f=some g->∀vs,Fr (g vs))/\(∀f g,ext f=some g->∀vs s v s' w K vs',g vs s=some (v,s')->Sim B0 w0 K s.h w->GK T K->a0t K s s'->VRL K vs' vs->(∃v' w' K',(callFunc f vs'.toArray).run P w=.ok (.value v') w'/\Step B0 w0 K s' w' K'/\VR K' v' v)\/((callFunc f vs'.toArray).run P w=.ok (.enter f vs'.toArray) w/\Calls P f vs'.toArray w λe w'=>∃v' K',e=.returned v'/\Step B0 w0 K s' w' K'/\VR K' v' v))
theorem b4a (n):a0l n=List.replicate n undef:=by induction n<;>first|rfl|grind[a0l]
theorem VRL.replicate (n):VRL K (List.replicate n undef) (List.replicate n undef):=⟨zq,λi v' v h1 h2=>by rw[List.getElem?_replicate]at h1 h2;by_cases hi:i<n;rw[vG hi]at h1 h2;grind[VR.undef];simp_all⟩
theorem b3p (hT:TabOk P T)(hM:P.follows .mixedOrders=true){ext}(hE:c0m P T B0 w0 ext)(n):a5c P T B0 w0 (a7o P T ext n):=by
 induction n with
  |zero=>intro f vs s v s' w K vs' h;cases h|succ n ih=>
   intro f vs s v s' w K vs' h S hg F hvs;have h0:(match ext f with|some g=>g vs|none=>M.obind (T.funcs.get f) λfn=>enter P T (a7o P T ext n) n fn f vs) s=some (v,s'):=h;have hFc:=Fr.callV P T hE.1 n;cases hx:ext f with
    |some g=>rw[hx]at h0;exact hE.2 f g hx vs s v s' w K vs' h0 S hg F hvs|none=>
     rw[hx]at h0;obtain⟨fn,hfn,h1⟩:=H9 h0;obtain⟨hPf,hnum⟩:=hT.funcs f fn hfn;unfold enter at h1;cases hb:fn.body with
      |none=>
       left;rw[hb]at h1;obtain⟨hpl,h2⟩:=I4 h1;obtain⟨x,hx1,h3⟩:=H9 h2;obtain⟨u,hu,h4⟩:=H9 h3;obtain⟨hna,h5⟩:=I4 h4;have hxv:x=.value u:=by cases x<;>first|(cases hu;rfl)|cases hu
       subst hxv;obtain⟨e,rfl⟩:=x8 h5;subst e;have hvv:vs'=vs:=by
        apply ui;intro i;by_cases hi:i<vs.length;have hi':i<vs'.length:=by rw[hvs.len];exact hi
        have r:=hvs.at_ i _ _ (wO hi') (wO hi);rw[wO hi',wO hi];have hp:=(M5 _ _).1 hpl vs[i] (uO hi);rw[r.eq_of_plain hp];rw[vg (by rw[hvs.len];omega),vg zy]
       rw[hvv];exact⟨_,w,K,a7d hx1 w,Step.same S rfl,a0V _ _ hna⟩|some c=>
       right;rw[hb]at h1;obtain⟨⟨ex,fr1⟩,s1,h2,h3⟩:=D6 h1;have hle:s1.c<=s'.c:=by
        have:Fr (b1P T fn (ex,fr1)):=by grind[b1P,Fr.fail,Fr.bind,Fr.resultsV,Fr.pure]
        exact this.le h3
       refine⟨?_,?_⟩;simp_all[callFunc];refine calls_of_wp hPf hb ?_;rw[E9,G8,b4a]at h2;refine(c2p hT hM ih hFc n).1 c _ s ex fr1 s1 K _ w _ h2 S (F.left hle) ?_ hg λe a' w' L=>?_;show VRL K (vs'.toArray++Array.replicate (fn.ntmps-vs'.toArray.size) undef).toList (vs++List.replicate (fn.ntmps-vs.length) undef);simp only[sD,rR,sO,hvs.len];exact hvs.append (VRL.replicate _);obtain⟨K1,st,r1,d1,e1⟩:=L;obtain⟨f1,f2,f3,v',f4,f5⟩:=b7a hT h3 r1 st.sim;have st2:Step B0 w0 K s' w' K1:=⟨st.le,λi g hi=>st.far i g zy,by rw[f2];exact st.sim⟩;cases ex with|exit id=>simp_all|normal=>have e1:e=.normal:=e1;subst e1;exact⟨d1,v',f4,v',K1,rfl,st2,f5⟩|ret=>have e1:e=.ret:=e1;subst e1;exact⟨d1,v',f4,v',K1,rfl,st2,f5⟩
end
end Go.V
end
