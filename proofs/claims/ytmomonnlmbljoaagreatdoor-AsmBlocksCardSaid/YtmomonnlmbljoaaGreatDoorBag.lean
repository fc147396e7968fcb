import Derived.Test.YtmomonnlmbljoaaGreatDoorBaa
import Derived.Test.YtmomonnlmbljoaaGreatDoorBaf
set_option maxRecDepth 1000000
set_option maxHeartbeats 4000000
set_option linter.unusedVariables false
set_option linter.unusedSimpArgs false
section
namespace Go.V
open Go.RowKit (Below)
section
variable {p:Program}{T:Tab}{call:J7}
theorem Fr.condM {β:Type}(v:Value){x y:M β}(hx:Fr x)(hy:Fr y):Fr (a5R v x y):=by
 cases v with
  |bool b=>cases b with|true=>exact hx|false=>exact hy
  |_=>exact Fr.fail
theorem Fr.crCase {β:Type}(r:CR){kn kp:Value->M β}(h1:∀v,Fr (kn v))(h2:∀v,Fr (kp v)):Fr (a1s r kn kp):=by cases r with|ret v=>exact h1 v|pan v=>exact h2 v
theorem Fr.xcase {β:Type}(x:Xc){a:M β}{b:Nat->M β}{c:M β}{d:Value->M β}(h1:Fr a)(h2:∀i,Fr (b i))(h3:Fr c)(h4:∀v,Fr (d v)):Fr (U8 x a b c d):=by cases x with|normal=>exact h1|exit i=>exact h2 i|ret=>exact h3|pan v=>exact h4 v
theorem Fr.okCall (hc:∀f vs,Fr (call f vs))(f:Nat)(vs:List Value):Fr (a1P call f vs):=Fr.bind (hc f vs) λr=>Fr.crCase r (λ_=>Fr.pure _) (λ_=>Fr.fail)
theorem Fr.noCall (f:Nat)(vs:List Value):Fr (c1i f vs):=Fr.fail
theorem d0G {β fr o}{kn kp:Value->M β}{s r}(h:a3U p T o9 call fr o kn kp s=some r):(∃v s1,Z0 p T c1i fr o s=some (v,s1)/\kn v s1=some r)\/(∃c f ga cr s1,o=.call c/\c.callee=.value f/\a4S T fr f c.args.toList=some ga/\call ga.1 ga.2 s=some (cr,s1)/\a1s cr kn kp s1=some r)\/(∃x v,o=.panic x/\X7 T fr x=some v/\a5e v=true/\kp v s=some r):=by
 have hs:∀m:M Value,o9.bv β m kn s=some r->∃v s1,m s=some (v,s1)/\kn v s1=some r:=λm q=>by obtain⟨v,s1,q1,q2⟩:=C8 (s2:=r.2) (b:=r.1) (f:=kn) q;grind
 have ho:∀x:Option Value,M.obind x kn s=some r->∃v s1,M.lift x s=some (v,s1)/\kn v s1=some r:=λx q=>by cases x with|none=>cases q|some v=>exact⟨v,s,rfl,q⟩
 cases o with
  |move x=>exact Or.inl (ho _ h)|assign x=>exact Or.inl (ho _ h)|call c=>obtain⟨cal,args,ts⟩:=c;cases cal with|value f=>obtain⟨ga,q0,q⟩:=G5 (s2:=r.2) (b:=r.1) h;obtain⟨cr,s1,q1,q2⟩:=C8 (f:=λr=>a1s r kn kp) q;grind|builtin b=>exact Or.inl (hs _ h)|invoke r m=>cases h
  |panic x=>obtain⟨v,q0,q⟩:=G5 (s2:=r.2) (b:=r.1) h;obtain⟨q1,q2⟩:=G9 q;simp_all|_=>exact Or.inl (hs _ h)
theorem Fr.stepK {β:Type}(hc:∀f vs,Fr (call f vs))(fr:List Value)(o:Op){kn kp:Value->M β}(h1:∀v,Fr (kn v))(h2:∀v,Fr (kp v)):Fr (a3U p T o9 call fr o kn kp):=by
 have hs:∀m:M Value,Fr m->Fr (o9.bv β m kn):=λm hm=>Fr.bind hm h1;cases o with
  |move x=>exact Fr.obind _ h1|assign x=>exact Fr.obind _ h1|call c=>obtain⟨cal,args,ts⟩:=c;cases cal with|value f=>exact Fr.obind _ λga=>Fr.bind (hc _ _) λr=>Fr.crCase r h1 h2|builtin b=>exact hs _ (Fr.opBuiltin p T _ _ _ _)|invoke r m=>exact Fr.fail
  |panic x=>exact Fr.obind _ λv=>Fr.guard _ (h2 v)|_=>exact hs _ (Fr.simpleOp p T _ _)
theorem Fr.runC (hc:∀f vs,Fr (call f vs))(ops os:List Oper):∀fr,Fr (a5j p T call ops os fr):=by induction os with|nil=>intro fr;exact Fr.pure _|cons o os ih=>grind[a4T,Fr.stepK,Fr.pure]
theorem Fr.regionC (hc:∀f vs,Fr (call f vs))(ops:List Oper)(draw:Bool)(fr:List Value):Fr (b3Y p T call ops draw fr):=by cases draw with|false=>exact Fr.runC hc _ _ _|true=>show Fr (M.bind (V.a2s p T (V.a1P call) ops ops fr) λy=>M.guard (a2V ops (a4H ops y.2) [] [] 0)<|M.pure (Xc.normal,y.1));grind[Fr.bind,Fr.runD,Fr.okCall,Fr.guard,Fr.pure]
theorem Fr.loopN {σ:Type}{body:σ->M (Xc×σ)}(h:∀x,Fr (body x))(n:Nat):∀x,Fr (U4 body n x):=by induction n with|zero=>intro x;exact Fr.fail|succ n ih=>grind[Z4,Fr.bind,Fr.xcase,Fr.pure]
theorem Fr.execC (hc:∀f vs,Fr (call f vs))(N:Nat):∀c fr,Fr (a0n p T N call c fr):=by intro c;induction c with|skip=>intro fr;exact Fr.pure _|region id ops draw=>intro fr;exact Fr.regionC hc _ _ _|seq a b iha ihb=>intro fr;exact Fr.bind (iha fr) λr=>Fr.xcase r.1 (ihb _) (λ_=>Fr.pure _) (Fr.pure _) (λ_=>Fr.pure _)|cond x a b iha ihb=>intro fr;exact Fr.obind _ λv=>Fr.condM v (iha fr) (ihb fr)|block id b ih=>intro fr;exact Fr.bind (ih fr) λr=>Fr.pure _|loop b ih=>intro fr;exact Fr.loopN ih N fr|exit id=>intro fr;exact Fr.pure _|ret=>intro fr;exact Fr.pure _|_=>intro fr;exact Fr.fail
theorem Fr.resK {β:Type}(fr:List Value)(rs:List ResultVar):∀{k:List Value->M β},(∀vs,Fr (k vs))->Fr (a3M T o9 fr rs k):=by induction rs with|nil=>intro k h;exact h []|cons r rs ih=>intro k h;cases r with|tmp t=>exact ih λvs=>h _|cell a t=>exact Fr.asPtr _ λad=>Fr.bind (Fr.loadV T _ _) λv=>ih λvs=>h _
theorem Fr.finK (fn:Func)(ex:Xc)(fr:List Value):Fr (c1Z T o9 fn ex fr):=Fr.xcase ex (Fr.resK _ _ λ_=>Fr.pure _) (λ_=>Fr.fail) (Fr.resK _ _ λ_=>Fr.pure _) (λ_=>Fr.pure _)
theorem Fr.enterC (hc:∀f vs,Fr (call f vs))(N:Nat)(fn:Func)(f:Nat)(args:List Value):Fr (a6R p T N call fn f args):=by grind[V.a6R,Fr.bind,Fr.externV,Fr.pure,Fr.execC,Fr.finK]
theorem Fr.callC {ext:Nat->Option (List Value->M Value)}(he:∀f g,ext f=some g->∀vs,Fr (g vs))(N n:Nat):∀f vs,Fr (b6I p T ext N n f vs):=by induction n with|zero=>intro f vs;exact Fr.fail|succ n ih=>intro f vs;show Fr (match ext f with|some g=>M.bind (g vs) λv=>M.pure (CR.ret v)|none=>M.obind (T.funcs.get f) λfn=>V.a6R p T N (V.b6I p T ext N n) fn f vs);cases hx:ext f with|some g=>exact Fr.bind (he f g hx vs) λ_=>Fr.pure _|none=>grind[Fr.obind,Fr.enterC]
end
section
variable {P:Program}{T:Tab}{B0:Nat}{w0:Base}{w:World}{K:KM}{s s':S}{a:Act}{fr:List Value}{v:Value}{call:J7}
def d1t (v:Value):List PanicEntry:=[{v:=v,recovered:=false}]
def e3d (B0:Nat)(w0:Base)(K:KM)(s':S)(r:CR)(e:Ending)(w':World):Prop:=match r with|.ret v=>∃v' K',e=.returned v'/\Step B0 w0 K s' w' K'/\VR K' v' v|.pan v=>∃v' K',e=.panicked (d1t v')/\Step B0 w0 K s' w' K'/\VR K' v' v
def a8v (P:Program)(T:Tab)(B0:Nat)(w0:Base)(call:J7):Prop:=∀f vs s r s' w K vs',call f vs s=some (r,s')->Sim B0 w0 K s.h w->GK T K->a0B K s s'->VRL K vs' vs->(∃v v' w' K',r=.ret v/\(callFunc f vs'.toArray).run P w=.ok (.value v') w'/\Step B0 w0 K s' w' K'/\VR K' v' v)\/((callFunc f vs'.toArray).run P w=.ok (.enter f vs'.toArray) w/\Calls P f vs'.toArray w (e3d B0 w0 K s' r))
theorem c7M (hC:a8v P T B0 w0 call):a4Q P T B0 w0 (a1P call):=by intro f vs s v s' w K vs' h S hg F hv;obtain⟨r,s1,h1,h2⟩:=C8 h;cases r with|pan u=>cases h2|ret u=>obtain⟨rfl,rfl⟩:=q9 h2;rcases hC f vs s _ _ w K vs' h1 S hg F hv with⟨x,v',w',K',e,q1,q2,q3⟩|⟨q1,q2⟩;grind;exact Or.inr ⟨q1,q2⟩
theorem c6B:a4Q P T B0 w0 c1i:=λ_ _ _ _ _ _ _ _ h=>zg
def exC (K':KM):Xc->Exit->Prop|.normal,e=>e=.normal|.exit id,e=>e=.exit id|.ret,e=>e=.ret|.pan v,e=>∃v',e=.panic (d1t v')/\VR K' v' v
def a8n (B0:Nat)(w0:Base)(K:KM)(s':S)(ds:List Deferred)(ex:Xc)(fr':List Value):Exit->Act->World->Prop:=λe a' w'=>∃K',Step B0 w0 K s' w' K'/\VRL K' a'.tmps.toList fr'/\a'.defers=ds/\exC K' ex e
theorem a8n.from {s1 w1 K1 ds ex fr' e a' w'}(h1:Step B0 w0 K s1 w1 K1)(hc:s1.c<=s'.c)(h:a8n B0 w0 K1 s' ds ex fr' e a' w'):a8n B0 w0 K s' ds ex fr' e a' w':=by obtain⟨K',st,r,d,q⟩:=h;exact⟨K',h1.trans st hc,r,d,q⟩
theorem c3v {f args ga}(h:a4S T fr f args=some ga):∃first captured vs,X7 T fr f=some (.func (.func ga.1) first captured)/\a0T T fr args=some vs/\ga.2=first.toList++(vs++captured.toList):=by
 unfold a4S at h;cases h1:X7 T fr f with
  |none=>rw[h1]at h;cases h|some v=>
   rw[h1]at h;cases h2:a0T T fr args with
    |none=>rw[h2]at h;cases h|some vs=>
     rw[h2]at h;cases v with
      |func fn first captured=>cases fn with|func g=>cases h;exact⟨first,captured,vs,rfl,rfl,by simp only[D9]⟩|_=>cases h
      |_=>cases h
theorem d1T (hT:TabOk P T)(hC:a8v P T B0 w0 call)(hF:∀f vs,Fr (call f vs)){β}{o:Oper}{kn kp:Value->M β}{r}(h:a3U P T o9 call fr o.op kn kp s=some r)(S:Sim B0 w0 K s.h w)(F:∀s1,s1.c<=r.2.c->a0B K s s1)(hkn:∀v,Fr (kn v))(hkp:∀v,Fr (kp v))(hf:VRL K a.tmps.toList fr)(hg:GK T K){next}{Q}(hn:∀v s1 v' w' K',kn v s1=some r->Step B0 w0 K s1 w' K'->(∀K2,a0B K2 s1 r.2)->s1.c<=r.2.c->VR K' v' v->next (a.put o.dst v') w')(hp:∀v s1 v' w' K',kp v s1=some r->Step B0 w0 K s1 w' K'->(∀K2,a0B K2 s1 r.2)->s1.c<=r.2.c->VR K' v' v->Q (.panic (d1t v')) a w'):o.wp P a w next Q:=by
 have Fall:∀s1,s1.c<=r.2.c->a0B K s s1:=F;rcases d0G h with⟨v,s1,h1,h2⟩|⟨c,f,ga,cr,s1,e1,e2,e3,e4,e5⟩|⟨x,v,e1,e2,e3,e4⟩;have hle:=(hkn v).le h2;refine b0V hT c6B h1 S (Fall _ hle) hf hg λv' w' K' st rr=>?_;exact hn v s1 v' w' K' h2 st (λK2=>a0B.right (F _ (wQ _)) (Fr.stepOp P T Fr.noCall _ _) h1) hle rr;have hfr:Fr (a1s cr kn kp):=Fr.crCase cr hkn hkp;have hle:=hfr.le e5;have hfree:∀K2,a0B K2 s1 r.2:=λK2=>a0B.right (F _ (wQ _)) (hF _ _) e4;obtain⟨first,captured,vs,q1,q2,q3⟩:=c3v e3;have rf:=O6 hf hg q1;have rs:=a6h hf hg q2;obtain⟨f1,c1,ef,rf1,rc1⟩:=b8b rf;have rargs:VRL K (f1.toList++(c.args.toList.map a.eval++c1.toList)) ga.2:=by rw[q3];exact rf1.append (rs.append rc1)
 have e:execOp a.eval o=callFunc ga.1 (f1.toList++(c.args.toList.map a.eval++c1.toList)).toArray:=by unfold execOp;rw[e1];show(do let d<-resolve a.eval c o.type;invoke d.target d.args)=_;unfold resolve;rw[e2];show(do let d<-Deferred.ofValue (a.eval f) (c.args.map a.eval);invoke d.target d.args)=_;rw[ef];show callFunc ga.1 (f1++c.args.map a.eval++c1)=_;congr 1;simp_all
 unfold Oper.wp;rw[e];rcases hC ga.1 ga.2 s cr s1 w K _ e4 S hg (Fall _ hle) rargs with⟨u,v',w',K',r1,r2,r3,r4⟩|⟨r1,r2⟩;subst r1;rw[r2];exact hn u s1 v' w' K' e5 r3 hfree hle r4;rw[r1];refine r2.mono λen w' hq=>?_;cases cr with|ret u=>obtain⟨v',K',rfl,t1,t2⟩:=hq;exact hn u s1 v' w' K' e5 t1 hfree hle t2|pan u=>obtain⟨v',K',rfl,t1,t2⟩:=hq;exact hp u s1 v' w' K' e5 t1 hfree hle t2
 have rx:=O6 hf hg e2;have hv:∃t y y',v=.iface t y/\a.eval x=.iface t y':=by cases v with|iface t y=>generalize hz:Value.iface t y=z at rx;generalize hu:a.eval x=u at rx;cases rx<;>grind|_=>cases e3
 obtain⟨t,y,y',rfl,ey⟩:=hv;unfold Oper.wp;have e:(execOp a.eval o).run P w=.halt (.panic (.iface t y')) w:=by simp_all[execOp,Instr.panic]
 rw[e];rw[ey]at rx;exact hp _ s _ w K e4 (Step.same S rfl) (λK2=>λi hi hi2=>F _ (wQ _) i hi hi2) ((hkp _).le e4) rx
theorem d6B (hT:TabOk P T)(hC:a8v P T B0 w0 call)(hF:∀f vs,Fr (call f vs))(ops){Q}:∀(n k) (fr) (x) (s s') (K) (a) (w),k+n=ops.size->a5j P T call ops.toList (ops.toList.drop k) fr s=some (x,s')->Sim B0 w0 K s.h w->a0B K s s'->VRL K a.tmps.toList fr->GK T K->(∀e a' w',a8n B0 w0 K s' a.defers x.1 x.2 e a' w'->Q e a' w')->wpOps P ops Q (List.range' k n) a w:=by intro n;induction n with|zero=>intro k fr x s s' K a w hk h S F hf hg hq;have:ops.toList.drop k=[]:=qL zm;rw[this]at h;obtain⟨rfl,rfl⟩:=q9 h;exact hq _ a w ⟨K,Step.same S rfl,hf,rfl,rfl⟩|succ n ih=>intro k fr x s s' K a w hk h S F hf hg hq;have hlt:k<ops.size:=zy;have hd:ops.toList.drop k=ops[k]::ops.toList.drop (k+1):=xH;rw[hd,a4T]at h;rw[qF];simp only[wpOps,sF hlt];rw[a9K ops a.tmps hf];cases hw:a1U ops.toList fr ops[k]with|true=>rw[hw]at h;simp only[pz]at h⊢;left;refine d1T hT hC hF h S (λs1 h1=>F.left h1) (λv=>Fr.runC hF _ _ _) (λv=>Fr.pure _) hf hg (λv s1 v' w' K' h2 st fre hle r=>?_) (λv s1 v' w' K' h2 st fre hle r=>?_);refine ih (k+1) _ x s1 s' K' _ w' zy h2 st.sim (fre K') (a8R (hf.mono st.le) _ r) (hg.mono st.le) λe a2 w2 L=>?_;rw[a2T]at L;grind[a8n.from];obtain⟨rfl,rfl⟩:=q9 h2;exact hq _ a w' ⟨K',st,hf.mono st.le,rfl,v',rfl,r⟩|false=>rw[hw]at h;simp only[uo,tO]at h⊢;refine ih (k+1) _ x s s' K _ w zy h S F (a8R hf _ (VR.undef K)) hg λe a2 w2 L=>?_;rw[a2T]at L;simp_all
theorem a8n.cases {K ds x fr' e a' w'}(hx:x≠.normal)(h:a8n B0 w0 K s' ds x fr' e a' w'):e≠.normal:=by obtain⟨K',_,_,_,q⟩:=h;cases x with|normal=>simp_all|exit id=>intro e';subst e';cases q|ret=>intro e';subst e';cases q|pan v=>obtain⟨v',rfl,_⟩:=q;simp_all
theorem b6q {next Q e a w}(he:e≠.normal)(h:Q e a w):Exit.then next Q e a w:=by cases e with|normal=>simp_all|_=>exact h
theorem c9g (hT:TabOk P T)(hM:P.follows .mixedOrders=true)(hC:a8v P T B0 w0 call)(hF:∀f vs,Fr (call f vs))(N):∀c fr s x s' K a w Q,a0n P T N call c fr s=some (x,s')->Sim B0 w0 K s.h w->a0B K s s'->VRL K a.tmps.toList fr->GK T K->(∀e a' w',a8n B0 w0 K s' a.defers x.1 x.2 e a' w'->Q e a' w')->c.wp P Q a w:=by
 have hFe:∀c fr,Fr (a0n P T N call c fr):=Fr.execC hF N;intro c;induction c with
  |skip=>intro fr s x s' K a w Q h S F hf hg hq;obtain⟨rfl,rfl⟩:=q9 h;exact wp_skip (hq _ _ _ ⟨K,Step.same S rfl,hf,rfl,rfl⟩)|region id ops draw=>intro fr s x s' K a w Q h S F hf hg hq;cases draw with|false=>have h:a5j P T call ops.toList ops.toList fr s=some (x,s'):=h;refine wp_region ?_;rw[pW];exact d6B hT hC hF ops ops.size 0 fr x s s' K a w zq zo S F hf hg hq|true=>have h:M.bind (a2s P T (a1P call) ops.toList ops.toList fr) (λy=>M.guard (a2V ops.toList (a4H ops.toList y.2) [] [] 0)<|M.pure (Xc.normal,y.1)) s=some (x,s'):=h;obtain⟨⟨fr1,feet⟩,s1,h1,h2⟩:=C8 h;obtain⟨hok,h3⟩:=G9 h2;obtain⟨rfl,rfl⟩:=q9 h3;exact b4E hT hM (c7M hC) (Fr.okCall hF) ops h1 hok S F hf hg λa' w' K' st r d=>hq _ _ _ ⟨K',st,r,d,rfl⟩
  |seq c1 c2 ih1 ih2=>
   intro fr s x s' K a w Q h S F hf hg hq;have h:M.bind (a0n P T N call c1 fr) (λr=>U8 r.1 (a0n P T N call c2 r.2) (λid=>M.pure (.exit id,r.2)) (M.pure (.ret,r.2)) (λv=>M.pure (.pan v,r.2))) s=some (x,s'):=h;obtain⟨⟨x1,fr1⟩,s1,h2,h3⟩:=C8 h;refine wp_seq ?_;by_cases hx:x1=.normal;subst hx;have h3:a0n P T N call c2 fr1 s1=some (x,s'):=h3;have hle:=(hFe _ _).le h3;refine ih1 fr s (.normal,fr1) s1 K a w _ h2 S (F.left hle) hf hg λe a' w' L=>?_;obtain⟨K1,st,r1,d1,e1⟩:=L;have e1:e=.normal:=e1;subst e1;exact ih2 fr1 s1 x s' K1 a' w' Q h3 st.sim (F.right (hFe _ _) h2) r1 (hg.mono st.le) λe a2 w2 L=>hq e a2 w2 (a8n.from st hle (d1▸L));have h4:M.pure (x1,fr1) s1=some (x,s'):=by cases x1 with|normal=>simp_all|_=>exact h3
   obtain⟨rfl,rfl⟩:=q9 h4;refine ih1 fr s _ _ K a w _ h2 S F hf hg λe a' w' L=>?_;exact b6q (L.cases hx) (hq _ _ _ L)|cond o c1 c2 ih1 ih2=>intro fr s x s' K a w Q h S F hf hg hq;obtain⟨u,e1,h1⟩:=G5 h;have r:=O6 hf hg e1;rcases b8C h1 with⟨rfl,h2⟩|⟨rfl,h2⟩;grind[wp_cond_true,b4l];grind[wp_cond_false,b4l]|block id b ih=>
   intro fr s x s' K a w Q h S F hf hg hq;obtain⟨⟨x1,fr1⟩,s1,h2,h3⟩:=C8 h;obtain⟨rfl,rfl⟩:=q9 h3;refine wp_block ?_;refine ih fr s _ _ K a w _ h2 S F hf hg λe a' w' L=>?_;obtain⟨K1,st,r1,d1,e1⟩:=L;cases x1 with
    |normal=>have e1:e=.normal:=e1;subst e1;exact hq _ _ _ ⟨K1,st,r1,d1,rfl⟩|exit id'=>have e1:e=.exit id':=e1;subst e1;show(if id'=id then Q .normal a' w' else Q (.exit id') a' w');cases hb:Nat.beq id' id with|true=>rw[vH (wR hb)];refine hq _ _ _ ⟨K1,st,r1,d1,?_⟩;grind[exC,a6j]|false=>rw[vN (λq=>zn)];refine hq _ _ _ ⟨K1,st,r1,d1,?_⟩;grind[a6j]
    |ret=>have e1:e=.ret:=e1;subst e1;exact hq _ _ _ ⟨K1,st,r1,d1,rfl⟩|pan v=>obtain⟨v',rfl,q⟩:=e1;exact hq _ _ _ ⟨K1,st,r1,d1,v',rfl,q⟩
  |loop b ih=>
   intro fr s x s' K a w Q h S F hf hg hq;have h:U4 (a0n P T N call b) N fr s=some (x,s'):=h;refine nR N ?_;have hFl:∀n fr,Fr (U4 (a0n P T N call b) n fr):=λn=>Fr.loopN (hFe b) n;have key:∀n fr s K a w,U4 (a0n P T N call b) n fr s=some (x,s')->Sim B0 w0 K s.h w->a0B K s s'->VRL K a.tmps.toList fr->GK T K->(∀e a' w',a8n B0 w0 K s' a.defers x.1 x.2 e a' w'->Q e a' w')->Code.rounds P b Q n a w:=by
    intro n;induction n with
     |zero=>intro fr s K a w h;cases h|succ n ihn=>
      intro fr s K a w h S F hf hg hq;rw[Z4]at h;obtain⟨⟨x1,fr1⟩,s1,h2,h3⟩:=C8 h;show b.wp P (Exit.then (Code.rounds P b Q n) Q) a w;by_cases hx:x1=.normal;subst hx;have h3:U4 (a0n P T N call b) n fr1 s1=some (x,s'):=h3;have hle:=(hFl _ _).le h3;refine ih fr s (.normal,fr1) s1 K a w _ h2 S (F.left hle) hf hg λe a' w' L=>?_;obtain⟨K1,st,r1,d1,e1⟩:=L;have e1:e=.normal:=e1;subst e1;exact ihn fr1 s1 K1 a' w' h3 st.sim (F.right (hFe _ _) h2) r1 (hg.mono st.le) λe a2 w2 L=>hq e a2 w2 (a8n.from st hle (d1▸L));have h4:M.pure (x1,fr1) s1=some (x,s'):=by cases x1 with|normal=>simp_all|_=>exact h3
      obtain⟨rfl,rfl⟩:=q9 h4;refine ih fr s _ _ K a w _ h2 S F hf hg λe a' w' L=>?_;exact b6q (L.cases hx) (hq _ _ _ L)
   grind|exit id=>intro fr s x s' K a w Q h S F hf hg hq;obtain⟨rfl,rfl⟩:=q9 h;exact wp_exit (hq _ _ _ ⟨K,Step.same S rfl,hf,rfl,rfl⟩)|ret=>intro fr s x s' K a w Q h S F hf hg hq;obtain⟨rfl,rfl⟩:=q9 h;exact wp_ret (hq _ _ _ ⟨K,Step.same S rfl,hf,rfl,rfl⟩)|_=>intro fr s x s' K a w Q h;cases h
theorem d7J {β}(fr rs):∀(k:List Value->M β),a3M T o9 fr rs k=M.bind (a3S T fr rs) k:=by
 induction rs with
  |nil=>intro k;rfl|cons r rs ih=>
   intro k;cases r with
    |tmp t=>show a3M T o9 fr rs (λvs=>k (C9 fr t::vs))=M.bind (M.bind (a3S T fr rs) λvs=>M.pure (C9 fr t::vs)) k;rw[a1W,ih];rfl|cell ad t=>
     show a0G (C9 fr ad) (λad=>M.bind (a4K T t ad) λv=>a3M T o9 fr rs λvs=>k (v::vs))=M.bind (a0G (C9 fr ad) λad=>M.bind (a4K T t ad) λv=>M.bind (a3S T fr rs) λvs=>M.pure (v::vs)) k;cases C9 fr ad with
      |pointer o=>cases o with|none=>rfl|some ad=>show M.bind (a4K T t ad) (λv=>a3M T o9 fr rs λvs=>k (v::vs))=M.bind (M.bind (a4K T t ad) λv=>M.bind (a3S T fr rs) λvs=>M.pure (v::vs)) k;rw[a1W];congr 1;funext v;rw[ih,a1W];rfl
      |_=>rfl
theorem d2Z {fn ex r}(h:c1Z T o9 fn ex fr s=some (r,s')):((ex=.normal\/ex=.ret)/\∃v,r=.ret v/\b1k T fn (.ret,fr) s=some (v,s'))\/∃v,ex=.pan v/\r=.pan v/\s'=s:=by
 have key:a3M T o9 fr fn.results.toList (λvs=>M.pure (CR.ret (a7I vs))) s=some (r,s')->∃v,r=.ret v/\b1k T fn (.ret,fr) s=some (v,s'):=by intro h;rw[d7J]at h;obtain⟨vs,s1,h1,h2⟩:=C8 h;obtain⟨rfl,rfl⟩:=q9 h2;refine⟨a7I vs,rfl,?_⟩;show M.bind (a3S T fr fn.results.toList) (λvs=>M.pure (a7I vs)) s=_;exact a1o h1 rfl
 cases ex with|normal=>exact Or.inl ⟨Or.inl rfl,key h⟩|exit id=>cases h|ret=>exact Or.inl ⟨Or.inr rfl,key h⟩|pan v=>obtain⟨rfl,rfl⟩:=q9 h;simp_all
theorem d0K (hT:TabOk P T)(hM:P.follows .mixedOrders=true){ext}(hE:b9i P T B0 w0 ext)(N n):a8v P T B0 w0 (b6I P T ext N n):=by
 induction n with
  |zero=>intro f vs s r s' w K vs' h;cases h|succ n ih=>
   intro f vs s r s' w K vs' h S hg F hvs;have h0:(match ext f with|some g=>M.bind (g vs) λv=>M.pure (CR.ret v)|none=>M.obind (T.funcs.get f) λfn=>a6R P T N (b6I P T ext N n) fn f vs) s=some (r,s'):=h;have hFc:=Fr.callC (p:=P) (T:=T) hE.1 N n;cases hx:ext f with
    |some g=>rw[hx]at h0;obtain⟨v,s1,h1,h2⟩:=C8 h0;obtain⟨rfl,rfl⟩:=q9 h2;rcases hE.2 f g hx vs s v _ w K vs' h1 S hg F hvs with⟨v',w',K',q1,q2,q3⟩|⟨q1,q2⟩;grind;exact Or.inr ⟨q1,q2⟩|none=>
     rw[hx]at h0;obtain⟨fn,hfn,h1⟩:=G5 h0;obtain⟨hPf,hnum⟩:=hT.funcs f fn hfn;unfold a6R at h1;cases hb:fn.body with
      |none=>
       rw[hb]at h1;obtain⟨v,s1,h2,h3⟩:=C8 h1;obtain⟨rfl,rfl⟩:=q9 h3;have h4:a7g P T (λ_=>none) 1 f vs s=some (v,s'):=by show M.obind (T.funcs.get f) (λfn=>enter P T (a7g P T (λ_=>none) 0) 0 fn f vs) s=_;rw[hfn];show enter P T (a7g P T (λ_=>none) 0) 0 fn f vs s=_;simp_all[enter]
       rcases b3B hT hM (ext:=λ_=>none) (B0:=B0) (w0:=w0) ⟨λ_ _ q=>ze,λ_ _ q=>ze⟩ 1 f vs s v s' w K vs' h4 S hg F hvs with⟨v',w',K',q1,q2,q3⟩|⟨q1,q2⟩;grind;exact Or.inr ⟨q1,q2⟩|some c=>right;rw[hb]at h1;obtain⟨⟨ex,fr1⟩,s1,h2,h3⟩:=C8 h1;have hle:s1.c<=s'.c:=(Fr.finK fn ex fr1).le h3;refine⟨?_,?_⟩;simp_all[callFunc];refine calls_of_wp hPf hb ?_;rw[D9,F9,b3D]at h2;refine c9g hT hM ih hFc N c _ s (ex,fr1) s1 K _ w _ h2 S (F.left hle) ?_ hg λe a' w' L=>?_;show VRL K (vs'.toArray++Array.replicate (fn.ntmps-vs'.toArray.size) undef).toList (vs++List.replicate (fn.ntmps-vs.length) undef);simp only[rX,rM,sI,hvs.len];exact hvs.append (VRL.replicate _);obtain⟨K1,st,r1,d1,e1⟩:=L;rcases d2Z h3 with⟨hex,v,rfl,hfin⟩|⟨v,hex,rfl,rfl⟩;obtain⟨f1,f2,f3,v',f4,f5⟩:=b6n hT hfin r1 st.sim;have st2:Step B0 w0 K s' w' K1:=⟨st.le,λi g hi=>st.far i g zy,by rw[f2];exact st.sim⟩;rcases hex with rfl|rfl;have e1:e=.normal:=e1;subst e1;exact⟨d1,v',f4,v',K1,rfl,st2,f5⟩;have e1:e=.ret:=e1;subst e1;exact⟨d1,v',f4,v',K1,rfl,st2,f5⟩;subst hex;obtain⟨v',rfl,q⟩:=e1;exact⟨d1,v',K1,rfl,st,q⟩
theorem Le.foot {α}{m m':M α}(h:Le m m'):Le (M.foot m) (M.foot m'):=λs r e=>by unfold M.foot at e⊢;cases hm:m ⟨s.c,s.h,[],[]⟩with|none=>rw[hm]at e;cases e|some x=>rw[hm]at e;rw[h _ _ hm];exact e
theorem Le.xcase {β:Type}{x:Xc}{a a':M β}{b b':Nat->M β}{c c':M β}{d d':Value->M β}(h1:Le a a')(h2:∀i,Le (b i) (b' i))(h3:Le c c')(h4:∀v,Le (d v) (d' v)):Le (U8 x a b c d) (U8 x a' b' c' d'):=a7j (λ_=>h1) (λi _=>h2 i) (λ_=>h3) (λv _=>h4 v)
section
variable {c c':J7}(hc:∀f vs,Le (c f vs) (c' f vs))
include hc
theorem c3C (f vs):Le (a1P c f vs) (a1P c' f vs):=Le.bind (hc f vs) λ_=>Le.refl _
theorem c5i {β}(fr o){kn kp kn' kp':Value->M β}(h1:∀v,Le (kn v) (kn' v))(h2:∀v,Le (kp v) (kp' v)):Le (a3U P T o9 c fr o kn kp) (a3U P T o9 c' fr o kn' kp'):=by
 have hs:∀m:M Value,Le (o9.bv β m kn) (o9.bv β m kn'):=λm=>Le.bind (Le.refl _) h1;cases o with
  |move x=>exact Le.obind λv _=>h1 v|assign x=>exact Le.obind λv _=>h1 v|call cl=>
   obtain⟨cal,args,ts⟩:=cl;cases cal with
    |value f=>refine Le.obind λga _=>?_;show Le (M.bind (c ga.1 ga.2) λr=>a1s r kn kp) (M.bind (c' ga.1 ga.2) λr=>a1s r kn' kp');refine Le.bind (hc _ _) λr=>?_;cases r with|ret v=>exact h1 v|pan v=>exact h2 v
    |builtin b=>exact hs _|invoke r m=>exact Le.fail _
  |panic x=>refine Le.obind λv _=>?_;cases a5e v with|true=>exact h2 v|false=>exact Le.fail _
  |_=>exact hs _
theorem d0k (ops os):∀fr,Le (a5j P T c ops os fr) (a5j P T c' ops os fr):=by induction os with|nil=>intro fr;exact Le.refl _|cons o os ih=>grind[a4T,c5i,Le.refl]
theorem c3Q (fr o):Le (Z0 P T (a1P c) fr o) (Z0 P T (a1P c') fr o):=by
 unfold Z0;cases b1i o with
  |none=>exact Le.refl _|some cl=>
   obtain⟨cal,args,ts⟩:=cl;cases cal with
    |value f=>
     show Le (a5g T fr f args.toList (a1P c)) (a5g T fr f args.toList (a1P c'));unfold a5g ev evs;refine Le.obind λv _=>Le.obind λvs _=>?_;cases v with
      |func fn first captured=>cases fn<;>first|rfl|grind[c3C,Le.fail]
      |_=>exact Le.fail _
    |builtin b=>exact Le.refl _|invoke r m=>exact Le.fail _
theorem c8u (ops os):∀fr,Le (a2s P T (a1P c) ops os fr) (a2s P T (a1P c') ops os fr):=by induction os with|nil=>intro fr;exact Le.refl _|cons o os ih=>grind[a7w,Le.bind,Le.foot,c3Q,Le.refl]
theorem c5F (N):∀k fr,Le (a0n P T N c k fr) (a0n P T N c' k fr):=by
 intro k;induction k with
  |region id ops draw=>intro fr;cases draw with|false=>exact d0k hc _ _ _|true=>show Le (M.bind (a2s P T (a1P c) ops.toList ops.toList fr) λy=>M.guard (a2V ops.toList (a4H ops.toList y.2) [] [] 0)<|M.pure (Xc.normal,y.1)) (M.bind (a2s P T (a1P c') ops.toList ops.toList fr) λy=>M.guard (a2V ops.toList (a4H ops.toList y.2) [] [] 0)<|M.pure (Xc.normal,y.1));grind[Le.bind,c8u,Le.refl]
  |seq a b iha ihb=>intro fr;exact Le.bind (iha fr) λr=>Le.xcase (ihb _) (λ_=>Le.refl _) (Le.refl _) (λ_=>Le.refl _)|cond x a b iha ihb=>
   intro fr;refine Le.obind λv _=>?_;cases v with
    |bool t=>cases t with|true=>exact iha fr|false=>exact ihb fr
    |_=>exact Le.fail _
  |block id b ih=>intro fr;exact Le.bind (ih fr) λr=>Le.refl _|loop b ih=>
   intro fr;have key:∀n fr,Le (U4 (a0n P T N c b) n fr) (U4 (a0n P T N c' b) n fr):=by intro n;induction n with|zero=>intro fr;exact Le.fail _|succ n ihn=>grind[Z4,Le.bind,Le.xcase,Le.refl]
   exact key N fr|_=>intro fr;exact Le.refl _
theorem c3p (N fn f args):Le (a6R P T N c fn f args) (a6R P T N c' fn f args):=by grind[a6R,Le.refl,Le.bind,c5F]
end
noncomputable def atF (P:Program)(T:Tab)(ext:Nat->Option (List Value->M Value))(N f:Nat)(call:J7)(args:List Value):M CR:=match ext f with|some g=>M.bind (g args) λv=>M.pure (CR.ret v)|none=>M.obind (T.funcs.get f) λfn=>a6R P T N call fn f args
def a7T (P:Program)(T:Tab)(ext:Nat->Option (List Value->M Value))(N:Nat)(sh:a2t):Prop:=∀f g,sh.get f=some g->∀call args,Le (g call args) (atF P T ext N f call args)
theorem d2t {ext N sh}(h:a7T P T ext N sh)(n):∀f vs,Le (o8 sh n f vs) (b6I P T ext N n f vs):=by induction n with|zero=>intro f vs;exact Le.fail _|succ n ih=>intro f vs;show Le (M.obind (sh.get f) λg=>g (o8 sh n) vs) (atF P T ext N f (b6I P T ext N n) vs);cases hg:sh.get f with|none=>exact Le.fail _|some g=>refine Le.trans (h f g hg _ _) ?_;grind[atF,Le.refl,Le.obind,c3p]
theorem b1y {ext N f fn c}(he:ext f=none)(hf:T.funcs.get f=some fn)(hb:fn.body=some c)(pn pl){call args m}(h:a3j P T a3R pn N call fn c pl args=m):Le m (atF P T ext N f call args):=by subst h;unfold atF;rw[he,hf];show Le _ (a6R P T N call fn f args);unfold a6R a3j;rw[hb,a6g];exact d2E N c pl CR _ _ (λex fr=>c1Z T o9 fn ex fr) λ_ _=>Le.refl _
theorem d6P {ext N f g}(he:ext f=some g){call args}:Le (M.bind (g args) λv=>M.pure (CR.ret v)) (atF P T ext N f call args):=by grind[atF,Le.refl]
theorem b0S (hT:TabOk P T)(hM:P.follows .mixedOrders=true){ext}(hE:b9i P T B0 w0 ext){N sh}(hs:a7T P T ext N sh)(n):a8v P T B0 w0 (o8 sh n):=λf vs s r s' w K vs' h=>d0K hT hM hE N n f vs s r s' w K vs' (d2t hs n f vs s _ h)
end
end Go.V
end
section
noncomputable section
namespace Go.V
abbrev R2:=Xc×List Value
def noP {β:Type}:Value->M β:=λ_=>M.fail
def a9j (v:Value):M Value:=a0G v λa=>M.bind (loadN a 1) λvs=>M.pure (C9 vs 0)
def b3f (n:Nat)(v:Value):M Value:=a0G v λa=>M.bind (loadN a n) λvs=>M.pure (.agg ⟨vs⟩)
def b6A (n:Nat)(va v:Value):M Value:=a0G va λa=>M.bind (M.guard (!(Nat.beq n 0)&&Nat.beq (x8 v.cells.toList) n)<|storeN a v.cells.toList) λ_=>M.pure undef
def d3D (zs:List Value):M Value:=M.bind (Y7 zs) λa=>M.pure (.pointer (some a))
def b3t (v:Value):M Value:=M.guard (!(a2C v.cells.toList))<|M.bind (Y7 v.cells.toList) λa=>M.pure (.pointer (some a))
def a6X (os:List (Nat×Nat)):List Value->List Value->Option (List Value):=List.rec (motive:=λ_=>List Value->List Value->Option (List Value)) (λ_ cs=>some cs) (λq _ ih vs cs=>match vs with|[]=>none|v::vs=>match Nat.beq (x8 v.cells.toList) q.2&&Nat.ble (q.1+q.2) (x8 cs)with|true=>ih vs (a2Y v.cells.toList cs q.1)|false=>none) os
def c8Y (os:List (Nat×Nat))(vs zs:List Value):M Value:=M.obind (a6X os vs zs) λcs=>M.pure (.agg ⟨cs⟩)
def b5B (n len:Nat)(os:List (Nat×Nat))(vs zs:List Value):M Value:=M.obind (a6X os vs zs) λcs=>M.bind (Y7 cs) λa=>M.pure (.slice (some a) len n)
def e0u (v:Value):M Value:=match v with|.pointer a=>M.guard a.isSome<|M.pure (.pointer a)|.func fn a b=>M.guard (c0q fn)<|M.pure (.func fn a b)|_=>M.fail
def a4t (vc va vb:Value):M Value:=match vc with
 |.bool t=>match t with|true=>M.pure va|false=>M.pure vb
 |_=>M.fail
def c2x (k:IntKind)(x:Value):M Value:=match x with|.int _ n=>M.pure (.int k (Q0 k n))|_=>M.fail
def xFA (off:Nat)(x:Value):M Value:=a0G x λa=>M.pure (.pointer (some (fwd a off)))
def xF1 (off:Nat)(x:Value):M Value:=match x with|.agg cs=>M.obind (a0l cs.toList off) M.pure|_=>M.fail
def xFN (off n:Nat)(x:Value):M Value:=match x with|.agg cs=>M.pure (.agg ⟨a0x (H9 cs.toList off) n⟩)|_=>M.fail
def elemAtN (n:Nat)(a:Addr)(i len:Nat):M Value:=M.guard (Nat.blt i len&& !(Nat.beq n 0))<|M.pure (.pointer (some (fwd a (i*n))))
def a7i (n:Nat)(x ix:Value):M Value:=M.obind (a7R ix) λi=>match x with|.slice a len es=>M.obind a λa=>M.guard (Nat.beq es n)<|elemAtN n a i len|_=>M.fail
def d9F (n len:Nat)(x ix:Value):M Value:=M.obind (a7R ix) λi=>a0G x λa=>elemAtN n a i len
def b6V (a b:Value):M Value:=M.obind (a7R b) λj=>match a with|.string s=>M.obind (a0l s.data.toList j) λb=>M.pure (a7h b)|_=>M.fail
def e1t (i:Nat)(a:Value):M Value:=match a with|.tuple vs=>M.obind (a0l vs.toList i) M.pure|_=>M.fail
def a8d (x:Value):M Value:=match x with|.string s=>M.pure (goInt (x8 s.data.toList))|_=>M.fail
def b6c (x:Value):M Value:=match x with|.slice _ n _=>M.pure (goInt n)|_=>M.fail
def a4F (e:TI)(s x:Value):M Value:=M.bind (a9s e.size x) λvs=>fList vs λvs=>a1J e s vs
def a6x (x:Value)(lo hi:Option Value):M Value:=match x with|.string s=>a7U s lo hi|_=>M.fail
def cutN (n:Nat)(a:Addr)(len:Nat)(lo hi:Option Value):M Value:=M.obind (a2Z 0 lo) λl=>M.obind (a2Z len hi) λh=>M.guard (Nat.ble l h&&Nat.ble h len&& !(Nat.beq n 0))<|M.pure (.slice (some (fwd a (l*n))) (h-l) n)
def a7s (n:Nat)(x:Value)(lo hi:Option Value):M Value:=match x with
 |.slice a len es=>match a with|some a=>M.guard (Nat.beq es n)<|cutN n a len lo hi|none=>M.guard (Nat.beq len 0)<|cutNil lo hi
 |_=>M.fail
def d5j (fn:Fn)(va vb:List Value):M Value:=M.pure (.func fn ⟨va⟩ ⟨vb⟩)
section
variable (p:Program)(T:Tab)
def a0M (op:BinOp)(t:TypeId)(x y:Operand)(a b:Value):M Value:=match a with
 |.int k n=>match b with
  |.int k' m=>match a3k op k k' n m with|some v=>M.pure v|none=>a9z p T op t x y a b
  |_=>M.fail
 |.string s=>match b with|.string s'=>M.lift (b3U op s.data.toList s'.data.toList)|_=>M.fail
 |_=>a9z p T op t x y a b
def xUn (op:UnOp)(a:Value):M Value:=M.guard (plain a)<|pureV (a0J p (Op.unary op a))
def c2H (ts:Array TypeId)(vs:List Value):M Value:=M.guard (J2 plain vs)<|pureV (a0J p (Builtin.max_ ts 0 ⟨vs⟩))
def e8w (ts:Array TypeId)(vs:List Value):M Value:=M.guard (J2 plain vs)<|pureV (a0J p (Builtin.min_ ts 0 ⟨vs⟩))
def c7x (t:TypeId)(a b v:Value):M Value:=M.bind (a7L T t a b v) λ_=>M.pure undef
def c7z:M Value:=M.bind (new (.map [])) λb=>M.pure (.map (some b))
def e5w (v:Value):M Value:=M.guard (b5G v)<|M.bind (new (.map [])) λb=>M.pure (.map (some b))
def d7M (v:Value):M Value:=match v with|.string s=>M.bind (new (.siter s 0)) λb=>M.pure (.pointer (some ⟨b,0,some 0⟩))|_=>M.fail
def e6Z (v:Value):M Value:=a0G v λa=>M.guard (Nat.beq a.off 0&&c9u a.spot)<|M.bind (rd a.block) λo=>match o with|.siter s pos=>b3T a.block s pos|_=>M.fail
end
def b0k (f:Func):Code:=match f.body with|some c=>c|none=>.skip
end Go.V
end
section
noncomputable section
namespace Go.V
theorem O0 {β}(m k):o9.bv β m k=M.bind m k:=wJ rfl rfl
theorem U6 {β}(m kn kp):o9.bc β m kn kp=M.bind m λr=>a1s r kn kp:=wJ rfl rfl
theorem R6 {β}(m k):o9.bj β m k=M.bind m λr=>k r.1 r.2:=wJ rfl rfl
theorem a5q (b n x):o9.lp b n x=U4 b n x:=wJ rfl rfl
theorem b5D {β}(v)(kn kp:Value->M β):a1s (.ret v) kn kp=kn v:=wJ rfl rfl
theorem F6 {β}(a:M β)(b c d):U8 .normal a b c d=a:=wJ rfl rfl
theorem a1y {β}(i)(a:M β)(b c d):U8 (.exit i) a b c d=b i:=wJ rfl rfl
theorem a2k {β}(a:M β)(b c d):U8 .ret a b c d=c:=wJ rfl rfl
theorem A9 {α}(x y:α):bcase true x y=x:=wJ rfl rfl
theorem y9 {α}(x y:α):bcase false x y=y:=wJ rfl rfl
theorem K7 (b):a1O true (.bool b)=b:=zi
theorem H7 (b):a1O false (.bool b)=!b:=zi
theorem J5 {β}(b)(x y:M β):a5R (.bool b) x y=bcase b x y:=wJ rfl rfl
theorem K4 {α}(b)(x y:α):bcase b (M.pure x) (M.pure y)=M.pure (bcase b x y):=zi
theorem K5 (b)(x:Xc)(l m:List Value):bcase b (x,l) (x,m)=(x,bcase b l m):=zi
theorem K6 (b l m i):C9 (bcase b l m) i=bcase b (C9 l i) (C9 m i):=zi
theorem a4I {α}(b)(x y:α):bcase (!b) x y=bcase b y x:=zi
theorem a2o (b c):a4t (.bool b) (bcase b (.bool c) undef) (.bool false)=M.pure (.bool (b&&c)):=zi
theorem a9Z (b c):a4t (.bool b) (.bool true) (bcase b undef (.bool c))=M.pure (.bool (b||c)):=zi
theorem V6 (v l):C9 (v::l) 0=v:=wJ rfl rfl
theorem X5 (v l i):C9 (v::l) (i+1)=C9 l i:=wJ rfl rfl
section
variable (p:Program)(T:Tab)
theorem a5k {op t x y k n m v}(h1:a6d (a5h op k) n m=none)(h:b4q op k n m=some v):a0M p T op t x y (.int k n) (.int k m)=M.pure v:=by
 have hk:a0C k k=true:=by cases k<;>rfl
 have:a3k op k k n m=some v:=by grind[a3k]
 grind[a0M]
theorem a5s {op}(h:op≠.shl)(h':op≠.shr)(k n m):a6d (a5h op k) n m=none:=by
 unfold a6d;cases n with
  |ofNat n=>
   cases m with
    |ofNat m=>cases op<;>first|rfl|exact absurd rfl h|exact absurd rfl h'
    |negSucc m=>rfl
  |negSucc n=>rfl
theorem F7 (t x y k n m):a0M p T .lss t x y (.int k n) (.int k m)=M.pure (.bool (decide (n<m))):=a5k p T (a5s zu zu _ _ _) rfl
theorem a5t (t x y k n m):a0M p T .leq t x y (.int k n) (.int k m)=M.pure (.bool (decide (n<=m))):=a5k p T (a5s zu zu _ _ _) rfl
theorem K3 (t x y k n m):a0M p T .gtr t x y (.int k n) (.int k m)=M.pure (.bool (decide (m<n))):=a5k p T (a5s zu zu _ _ _) rfl
theorem a1H (t x y k n m):a0M p T .geq t x y (.int k n) (.int k m)=M.pure (.bool (decide (m<=n))):=a5k p T (a5s zu zu _ _ _) rfl
theorem Q5 (t x y k n m):a0M p T .eql t x y (.int k n) (.int k m)=M.pure (.bool (decide (n=m))):=a5k p T (a5s zu zu _ _ _) rfl
theorem a4y (t x y k n m):a0M p T .neq t x y (.int k n) (.int k m)=M.pure (.bool (!(decide (n=m)))):=a5k p T (a5s zu zu _ _ _) rfl
theorem I8 (t x y k n m):a0M p T .add t x y (.int k n) (.int k m)=M.pure (.int k (Q0 k (n+m))):=a5k p T (a5s zu zu _ _ _) rfl
theorem Q4 (t x y k n m):a0M p T .sub t x y (.int k n) (.int k m)=M.pure (.int k (Q0 k (n-m))):=a5k p T (a5s zu zu _ _ _) rfl
theorem O9 (b):xUn p .not (.bool b)=M.pure (.bool (!b)):=zi
end
theorem a1I (s j b)(h:s.data.toList[j]?=some b):b6V (.string s) (.int .i64 (.ofNat j))=M.pure (.int .u8 (.ofNat b.toNat)):=by unfold b6V;show M.obind (a0l s.data.toList j) (λb=>M.pure (a7h b))=_;rw[a2J,h];rfl
theorem a3Q (s):a8d (.string s)=M.pure (.int .i64 (.ofNat s.data.toList.length)):=by unfold a8d;simp only[F9];rfl
end Go.V
end
section
noncomputable section
namespace Go.V
def ar0 (f:J7->M CR):J7->List Value->M CR:=λcall args=>match args with|[]=>f call|_=>M.fail
def ar1 (f:J7->Value->M CR):J7->List Value->M CR:=λcall args=>match args with|[a]=>f call a|_=>M.fail
def ar2 (f:J7->Value->Value->M CR):J7->List Value->M CR:=λcall args=>match args with|[a,b]=>f call a b|_=>M.fail
def ar3 (f:J7->Value->Value->Value->M CR):J7->List Value->M CR:=λcall args=>match args with|[a,b,c]=>f call a b c|_=>M.fail
def ar4 (f:J7->Value->Value->Value->Value->M CR):J7->List Value->M CR:=λcall args=>match args with|[a,b,c,d]=>f call a b c d|_=>M.fail
def ar5 (f:J7->Value->Value->Value->Value->Value->M CR):J7->List Value->M CR:=λcall args=>match args with|[a,b,c,d,e]=>f call a b c d e|_=>M.fail
def arX (g:List Value->M Value):J7->List Value->M CR:=λ_ args=>M.bind (g args) λv=>M.pure (.ret v)
section
variable {P:Program}{T:Tab}{ext:Nat->Option (List Value->M Value)}{N f:Nat}{fn:Func}{c:Code}{pn:Bool}{pl:Pl}
def Fit (P:Program)(T:Tab)(ext:Nat->Option (List Value->M Value))(N f:Nat)(g:J7->List Value->M CR):Prop:=∀call args,Le (g call args) (atF P T ext N f call args)
theorem e4q {sh:Cb->Nat->J7->M CR}(he:ext f=none)(hf:T.funcs.get f=some fn)(hb:fn.body=some c)(h:∀cb N call,a3j P T cb pn N call fn c pl []=sh cb N call):Fit P T ext N f (ar0 (sh a3R N)):=by intro call args;unfold ar0;grind[b1y,Le.fail]
theorem e6e {sh:Cb->Nat->J7->Value->M CR}(he:ext f=none)(hf:T.funcs.get f=some fn)(hb:fn.body=some c)(h:∀cb N call a,a3j P T cb pn N call fn c pl [a]=sh cb N call a):Fit P T ext N f (ar1 (sh a3R N)):=by intro call args;unfold ar1;grind[b1y,Le.fail]
theorem e7k {sh:Cb->Nat->J7->Value->Value->M CR}(he:ext f=none)(hf:T.funcs.get f=some fn)(hb:fn.body=some c)(h:∀cb N call a b,a3j P T cb pn N call fn c pl [a,b]=sh cb N call a b):Fit P T ext N f (ar2 (sh a3R N)):=by intro call args;unfold ar2;grind[b1y,Le.fail]
theorem e3c {sh:Cb->Nat->J7->Value->Value->Value->M CR}(he:ext f=none)(hf:T.funcs.get f=some fn)(hb:fn.body=some c)(h:∀cb N call a b d,a3j P T cb pn N call fn c pl [a,b,d]=sh cb N call a b d):Fit P T ext N f (ar3 (sh a3R N)):=by intro call args;unfold ar3;grind[b1y,Le.fail]
theorem e3R {sh:Cb->Nat->J7->Value->Value->Value->Value->M CR}(he:ext f=none)(hf:T.funcs.get f=some fn)(hb:fn.body=some c)(h:∀cb N call a b d e,a3j P T cb pn N call fn c pl [a,b,d,e]=sh cb N call a b d e):Fit P T ext N f (ar4 (sh a3R N)):=by intro call args;unfold ar4;grind[b1y,Le.fail]
theorem e4Z {sh:Cb->Nat->J7->Value->Value->Value->Value->Value->M CR}(he:ext f=none)(hf:T.funcs.get f=some fn)(hb:fn.body=some c)(h:∀cb N call a b d e g,a3j P T cb pn N call fn c pl [a,b,d,e,g]=sh cb N call a b d e g):Fit P T ext N f (ar5 (sh a3R N)):=by intro call args;unfold ar5;grind[b1y,Le.fail]
theorem d3W {g}(he:ext f=some g):Fit P T ext N f (arX g):=λ_ _=>d6P he
inductive OAll (Q:(J7→List Value→M CR)→Prop):Option (J7→List Value→M CR)→Prop
 | none:OAll Q Option.none
 | some {g:J7→List Value→M CR}:Q g→OAll Q (Option.some g)
inductive TAll:(Nat→(J7→List Value→M CR)→Prop)→a2t→Prop
 | leaf {Q:Nat→(J7→List Value→M CR)→Prop}:TAll Q .leaf
 | node {Q:Nat→(J7→List Value→M CR)→Prop} {v:Option (J7→List Value→M CR)} {l r:a2t}:OAll (Q 0) v→TAll (fun k=>Q (2 * k+1)) l→TAll (fun k=>Q (2 * k+2)) r→TAll Q (.node v l r)
theorem TAll.get {Q t}(h:TAll Q t):∀f g,t.get f=some g->Q f g:=by
 induction h with
  |leaf=>intro f g e;cases e|node hv _ _ ihl ihr=>
   intro f g e;cases f with
    |zero=>cases hv with|none=>cases e|some q=>cases e;exact q
    |succ k=>rw[Trie.get_node_succ]at e;grind
end
end Go.V
end
section
noncomputable section
namespace Go.V
open Go.RowKit (Below)
abbrev a2G:=List (List Value)
def b4n (vs:a2G):Nat->Trie VObj->Trie VObj:=List.rec (motive:=λ_=>Nat->Trie VObj->Trie VObj) (λ_ t=>t) (λv _ ih i t=>Trie.putK (some (.cells (U0 (λx=>(x,0)) v) 0 true)) (i+1) t i λt=>ih (i+1) t) vs
def a3d (vs:a2G):S:=⟨x8 vs,b4n vs 0 .leaf,[],[]⟩
structure LaidV (vs:a2G) (w:World):Prop where
 size:vs.length≤w.heap.size
 cell:∀ (g:Nat) (l:List Value),vs[g]?=some l→∀ (off:Nat) v,l[off]?=some v→w.cell? ⟨g,off,none⟩=some v
 row:∀ (g:Nat) (l:List Value),vs[g]?=some l→l≠[]→∃ t fz,w.heap[g]?=some (.cells ⟨l⟩ t fz)
theorem LaidV.below {vs B w w'}(h:LaidV vs w)(b:Below B w w')(hB:vs.length<=B):LaidV vs w':=⟨vQ h.size b.size,λg l hg off v hv=>by have hlt:g<vs.length:=(wM.1 hg).1;rw[show w'.cell? ⟨g,off,none⟩=w.cell? ⟨g,off,none⟩from tF (w:=w) (b.block g zy)];exact h.cell g l hg off v hv,λg l hg hl=>by have hlt:g<vs.length:=(wM.1 hg).1;rw[b.block g zy];exact h.row g l hg hl⟩
theorem c3g (vs:a2G):∀(i:Nat) (t:Trie VObj) (j:Nat),(b4n vs i t).get j=if i<=j then(match vs[j-i]? with|some l=>some (.cells (l.map λx=>(x,0)) 0 true)|none=>t.get j)else t.get j:=by
 induction vs with
  |nil=>intro i t j;show t.get j=_;split<;>simp|cons v vs ih=>
   intro i t j;show(Trie.putK (some (.cells (U0 (λx=>(x,0)) v) 0 true)) (i+1) t i λt=>b4n vs (i+1) t).get j=_;rw[Trie.putK_eq,ih,a0R];by_cases h1:i+1<=j;rw[vH h1,vH zy,show j-i=(j-(i+1))+1 by omega,tq];cases vs[j-(i+1)]? with|some l=>rfl|none=>simp only;rw[Trie.get_put _ _ _ _ zy,vN zy]
   rw[vN h1];by_cases h2:i<=j;obtain rfl:j=i:=zy;rw[vH h2,Trie.get_put _ _ _ _ zy,vH rfl];simp;rw[vN h2,Trie.get_put _ _ _ _ zy,vN zy]
section
variable {P:Program}{T:Tab}{w:World}{vs:a2G}
def a6i (vs:a2G):KM:=λb g=>if b<vs.length/\g=0 then some ⟨b,0,0,0,false⟩else none
theorem a2P {b g l}(h:a6i vs b g=some l):b<vs.length/\g=0/\l=⟨b,0,0,0,false⟩:=by unfold a6i at h;simp_all
theorem a1x (j:Nat):(a3d vs).h.get j=match vs[j]? with|some l=>some (.cells (l.map λx=>(x,0)) 0 true)|none=>none:=by show(b4n vs 0 .leaf).get j=_;rw[c3g,vH (vC _),qb];rfl
theorem b0R {R}(hR:∀k,w.heap.size<=k->R k)(hR0:∀k,k<vs.length->R k)(hL:LaidV vs w)(hp:∀l∈vs,∀v∈l,plain v=true):Sim w.heap.size ⟨w,R⟩ (a6i vs) (a3d vs).h w:=by
 have hcs:∀b cs cur ro,(a3d vs).h.get b=some (.cells cs cur ro)->∃l,vs[b]?=some l/\cs=l.map (λx=>(x,0))/\cur=0/\ro=true:=by intro b cs cur ro h;rw[a1x]at h;grind
 refine⟨⟨wQ _,hR⟩,rV _ _,?_,?_,?_,?_,?_,?_,?_,?_,?_,?_,λb g l h _=>(a2P h).2.1⟩;intro b g l h;obtain⟨h1,_,rfl⟩:=a2P h;exact⟨wD h1 hL.size,hR0 _ h1⟩;intro b g l h;obtain⟨h1,_,rfl⟩:=a2P h;rw[a1x,wO h1];simp_all;intro b g l h ho;obtain⟨_,_,rfl⟩:=a2P h;cases ho;intro b g l b' g' l' h _ _ ho;obtain⟨_,_,rfl⟩:=a2P h;cases ho;intro b g l g' l' h h';obtain⟨_,_,rfl⟩:=a2P h;obtain⟨_,_,rfl⟩:=a2P h';simp_all;intro b g l cs cur ro h ho;obtain⟨_,_,rfl⟩:=a2P h;cases ho;intro b cs cur ro h;obtain⟨l,h1,rfl,rfl,rfl⟩:=hcs b cs cur ro h;refine⟨λg l' q=>?_,λg hg=>⟨⟨b,0,0,0,false⟩,?_⟩,λc hc=>?_⟩;obtain⟨_,rfl,rfl⟩:=a2P q;simp_all;unfold a6i;rw[vH ⟨(wM.1 h1).1,ol.1 hg⟩];grind;intro b cs cur ro g l h hk off v st hv hst hlo;obtain⟨l',h1,rfl,rfl,rfl⟩:=hcs b cs cur ro h;obtain⟨_,rfl,rfl⟩:=a2P hk;rw[vM]at hv;cases q:l'[off]? with|none=>rw[q]at hv;cases hv|some x=>rw[q]at hv;cases hv;refine⟨v,?_,.plain (hp l' (vP h1) v (vP q))⟩;show w.cell? ⟨b,0+(off-0),none⟩=some v;rw[vV,qb];exact hL.cell b l' h1 off v q
 grind[a1x];grind[a1x]
theorem b1G (h:T.ng<=vs.length):GK T (a6i vs):=λg hg=>⟨⟨g,0,0,0,false⟩,by unfold a6i;rw[vH ⟨zy,rfl⟩],rfl,rfl,rfl⟩
def a2B (P:Program)(T:Tab)(vs:a2G)(ext:Nat->Option (List Value->M Value)):Prop:=∀B0 w0,LaidV vs w0.w->vs.length<=B0->b9i P T B0 w0 ext
theorem c3R:a2B P T vs (λ_=>none):=λ_ _ _ _=>⟨λ_ _ h=>zg,λ_ _ h=>zg⟩
def a6W (P:Program)(vs:a2G)(f:Nat)(args:List Value)(v:Value):Prop:=∀w,LaidV vs w->(callFunc f args.toArray).run P w=.ok (.enter f args.toArray) w/\Calls P f args.toArray w λe w'=>e=.returned v/\Below w.heap.size w w'
theorem V4 {f:Nat}{fn c args}(hPf:P.funcs[f]?=some fn)(hnum:(fn.name== "runtime.NumGoroutine")=false)(hb:fn.body=some c):(callFunc f args).run P w=.ok (.enter f args) w:=by simp_all[callFunc]
theorem b2O {K l}(h:J2 (K9 8) l=true):VRL K l l:=⟨rfl,λi v' v h1 h2=>by rw[h1]at h2;cases h2;exact a0Y 8 _ ((M4 _ _).1 h _ (vP h1))⟩
theorem c3n (hT:TabOk P T)(hM:P.follows .mixedOrders=true)(hng:T.ng<=vs.length)(hp:∀l∈vs,∀v∈l,plain v=true){ext}(hE:a2B P T vs ext){n f}{fn}{c}{args}{v}{s'}(hPf:P.funcs[f]?=some fn)(hnum:(fn.name== "runtime.NumGoroutine")=false)(hb:fn.body=some c)(ha:J2 (K9 8) args=true)(hv:K9 8 v=true)(h:a7g P T ext n f args (a3d vs)=some (v,s')):a6W P vs f args v:=by intro w hL;have hE':=hE w.heap.size ⟨w,λ_=>True⟩ hL hL.size;refine⟨V4 hPf hnum hb,?_⟩;rcases b3B hT hM hE' n f args (a3d vs) v s' w (a6i vs) args h (b0R (λ_ _=>trivial) (λ_ _=>trivial) hL hp) (b1G hng) (λi hi _=>by rw[a1x];have:vs.length<=i:=yE;rw[vo this]) (b2O ha)with⟨v',w',K',q1,_⟩|⟨_,q⟩;rw[V4 hPf hnum hb]at q1;cases q1;refine q.mono λe w' ⟨v',K',e1,st,r⟩=>?_;rw[e1,r.eq_of_noAddr 8 hv];exact⟨rfl,st.sim.below⟩
def b0b (ext:Nat->Option (List Value->M Value))(f:Nat)(tab:List Value->Option Value):Nat->Option (List Value->M Value):=λg=>match Nat.beq g f with|true=>some λargs=>M.lift (tab args)|false=>ext g
theorem a9P {ext}(hE:a2B P T vs ext){f tab}(ht:∀args v,tab args=some v->J2 (K9 8) args=true/\K9 8 v=true/\a6W P vs f args v):a2B P T vs (b0b ext f tab):=by
 intro B0 w0 hL hB;have h0:=hE B0 w0 hL hB;constructor;intro g m hm aS9;unfold b0b at hm;cases hb:Nat.beq g f with|true=>rw[hb]at hm;grind[Fr.lift]|false=>rw[hb]at hm;exact h0.1 g m hm aS9
 intro g m hm aS9 s v s' w K vs' h S hg F hvs;unfold b0b at hm;cases hb:Nat.beq g f with
  |true=>
   rw[hb]at hm;cases hm;obtain rfl:=wR hb;right;obtain⟨e1,e2⟩:=a3i h;obtain⟨t1,t2,t3⟩:=ht aS9 v e1;have hvv:vs'=aS9:=by
    apply uj;intro i;by_cases hi:i<aS9.length;have hi':i<vs'.length:=by rw[hvs.len];exact hi
    have r:=hvs.at_ i _ _ (wO hi') (wO hi);rw[wO hi',wO hi,r.eq_of_noAddr 8 ((M4 _ _).1 t1 aS9[i] (uP hi))];rw[vo (by rw[hvs.len];omega),vo zy]
   rw[hvv];obtain⟨c1,c2⟩:=t3 w (hL.below S.below hB);refine⟨c1,c2.mono λe w' ⟨q1,q2⟩=>⟨v,K,q1,⟨KM.le_refl K,λ_ _ _=>rfl,?_⟩,a0Y 8 v t2⟩⟩;subst e2;exact a6q S ⟨q2.os,q2.tape,q2.output,q2.size,q2.block⟩|false=>rw[hb]at hm;exact h0.2 g m hm aS9 s v s' w K vs' h S hg F hvs
end
end Go.V
end
section
namespace Go.V
open Go.RowKit (Below)
section
variable {P:Program}{T:Tab}{w:World}{vs:a2G}
theorem a5J (hT:TabOk P T)(hM:P.follows .mixedOrders=true)(hng:T.ng<=vs.length)(hp:∀l∈vs,∀v∈l,plain v=true){ext}(hE:a2B P T vs ext){N}{sh}(hs:a7T P T ext N sh){n f}{fn}{c}{args}{v}{s'}(hPf:P.funcs[f]?=some fn)(hnum:(fn.name== "runtime.NumGoroutine")=false)(hb:fn.body=some c)(ha:J2 (K9 8) args=true)(hv:K9 8 v=true)(h:o8 sh n f args (a3d vs)=some (.ret v,s')):a6W P vs f args v:=by intro w hL;have hE':=hE w.heap.size ⟨w,λ_=>True⟩ hL hL.size;refine⟨V4 hPf hnum hb,?_⟩;rcases b0S hT hM hE' hs n f args (a3d vs) (.ret v) s' w (a6i vs) args h (b0R (λ_ _=>trivial) (λ_ _=>trivial) hL hp) (b1G hng) (λi hi _=>by rw[a1x];have:vs.length<=i:=yE;rw[vo this]) (b2O ha)with⟨v1,v',w',K',_,q1,_⟩|⟨_,q⟩;rw[V4 hPf hnum hb]at q1;cases q1;refine q.mono λe w' hq=>?_;obtain⟨v',K',e1,st,r⟩:=hq;rw[e1,r.eq_of_noAddr 8 hv];exact⟨rfl,st.sim.below⟩
end
end Go.V
end
