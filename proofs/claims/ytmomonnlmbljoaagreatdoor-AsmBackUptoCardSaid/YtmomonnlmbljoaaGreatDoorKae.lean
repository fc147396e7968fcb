import Derived.Test.YtmomonnlmbljoaaGreatDoorKaa
import Derived.Test.YtmomonnlmbljoaaGreatDoorKad
set_option maxRecDepth 1000000
set_option maxHeartbeats 4000000
set_option linter.unusedVariables false
set_option linter.unusedSimpArgs false
section
namespace Go.V
open Go.RowKit (Below)
section
variable {p:Program}{T:Tab}{call:J4}
theorem Fr.condM {β:Type}(v:Value){x y:M β}(hx:Fr x)(hy:Fr y):Fr (a5Z v x y):=by
 cases v with
  |bool b=>cases b with|true=>exact hx|false=>exact hy
  |_=>exact Fr.fail
theorem Fr.crCase {β:Type}(r:CR){kn kp:Value->M β}(h1:∀v,Fr (kn v))(h2:∀v,Fr (kp v)):Fr (a1B r kn kp):=by cases r with|ret v=>exact h1 v|pan v=>exact h2 v
theorem Fr.xcase {β:Type}(x:Xc){a:M β}{b:Nat->M β}{c:M β}{d:Value->M β}(h1:Fr a)(h2:∀i,Fr (b i))(h3:Fr c)(h4:∀v,Fr (d v)):Fr (V3 x a b c d):=by cases x with|normal=>exact h1|exit i=>exact h2 i|ret=>exact h3|pan v=>exact h4 v
theorem Fr.okCall (hc:∀f vs,Fr (call f vs))(f:Nat)(vs:List Value):Fr (a2a call f vs):=Fr.bind (hc f vs) λr=>Fr.crCase r (λ_=>Fr.pure _) (λ_=>Fr.fail)
theorem Fr.noCall (f:Nat)(vs:List Value):Fr (c3u f vs):=Fr.fail
theorem c8K {β fr o}{kn kp:Value->M β}{s r}(h:a4g p T o8 call fr o kn kp s=some r):(∃v s1,Z4 p T c3u fr o s=some (v,s1)/\kn v s1=some r)\/(∃c f ga cr s1,o=.call c/\c.callee=.value f/\a4Z T fr f c.args.toList=some ga/\call ga.1 ga.2 s=some (cr,s1)/\a1B cr kn kp s1=some r)\/(∃x v,o=.panic x/\X5 T fr x=some v/\a5u v=true/\kp v s=some r):=by
 have hs:∀m:M Value,o8.bv β m kn s=some r->∃v s1,m s=some (v,s1)/\kn v s1=some r:=λm q=>by obtain⟨v,s1,q1,q2⟩:=D6 (s2:=r.2) (b:=r.1) (f:=kn) q;grind
 have ho:∀x:Option Value,M.obind x kn s=some r->∃v s1,M.lift x s=some (v,s1)/\kn v s1=some r:=λx q=>by cases x with|none=>cases q|some v=>exact⟨v,s,rfl,q⟩
 cases o with
  |move x=>exact Or.inl (ho _ h)|assign x=>exact Or.inl (ho _ h)|call c=>obtain⟨cal,args,ts⟩:=c;cases cal with|value f=>obtain⟨ga,q0,q⟩:=H9 (s2:=r.2) (b:=r.1) h;obtain⟨cr,s1,q1,q2⟩:=D6 (f:=λr=>a1B r kn kp) q;grind|builtin b=>exact Or.inl (hs _ h)|invoke r m=>cases h
  |panic x=>obtain⟨v,q0,q⟩:=H9 (s2:=r.2) (b:=r.1) h;obtain⟨q1,q2⟩:=I4 q;simp_all|_=>exact Or.inl (hs _ h)
theorem Fr.stepK {β:Type}(hc:∀f vs,Fr (call f vs))(fr:List Value)(o:Op){kn kp:Value->M β}(h1:∀v,Fr (kn v))(h2:∀v,Fr (kp v)):Fr (a4g p T o8 call fr o kn kp):=by
 have hs:∀m:M Value,Fr m->Fr (o8.bv β m kn):=λm hm=>Fr.bind hm h1;cases o with
  |move x=>exact Fr.obind _ h1|assign x=>exact Fr.obind _ h1|call c=>obtain⟨cal,args,ts⟩:=c;cases cal with|value f=>exact Fr.obind _ λga=>Fr.bind (hc _ _) λr=>Fr.crCase r h1 h2|builtin b=>exact hs _ (Fr.opBuiltin p T _ _ _ _)|invoke r m=>exact Fr.fail
  |panic x=>exact Fr.obind _ λv=>Fr.guard _ (h2 v)|_=>exact hs _ (Fr.simpleOp p T _ _)
theorem Fr.runC (hc:∀f vs,Fr (call f vs))(ops os:List Oper):∀fr,Fr (a5s p T call ops os fr):=by induction os with|nil=>intro fr;exact Fr.pure _|cons o os ih=>grind[a5d,Fr.stepK,Fr.pure]
theorem Fr.regionC (hc:∀f vs,Fr (call f vs))(ops:List Oper)(draw:Bool)(fr:List Value):Fr (b4o p T call ops draw fr):=by cases draw with|false=>exact Fr.runC hc _ _ _|true=>show Fr (M.bind (V.a2t p T (V.a2a call) ops ops fr) λy=>M.guard (a3f ops (a4N ops y.2) [] [] 0)<|M.pure (Xc.normal,y.1));grind[Fr.bind,Fr.runD,Fr.okCall,Fr.guard,Fr.pure]
theorem Fr.loopN {σ:Type}{body:σ->M (Xc×σ)}(h:∀x,Fr (body x))(n:Nat):∀x,Fr (R7 body n x):=by induction n with|zero=>intro x;exact Fr.fail|succ n ih=>grind[Z5,Fr.bind,Fr.xcase,Fr.pure]
theorem Fr.execC (hc:∀f vs,Fr (call f vs))(N:Nat):∀c fr,Fr (a0m p T N call c fr):=by intro c;induction c with|skip=>intro fr;exact Fr.pure _|region id ops draw=>intro fr;exact Fr.regionC hc _ _ _|seq a b iha ihb=>intro fr;exact Fr.bind (iha fr) λr=>Fr.xcase r.1 (ihb _) (λ_=>Fr.pure _) (Fr.pure _) (λ_=>Fr.pure _)|cond x a b iha ihb=>intro fr;exact Fr.obind _ λv=>Fr.condM v (iha fr) (ihb fr)|block id b ih=>intro fr;exact Fr.bind (ih fr) λr=>Fr.pure _|loop b ih=>intro fr;exact Fr.loopN ih N fr|exit id=>intro fr;exact Fr.pure _|ret=>intro fr;exact Fr.pure _|_=>intro fr;exact Fr.fail
theorem Fr.resK {β:Type}(fr:List Value)(rs:List ResultVar):∀{k:List Value->M β},(∀vs,Fr (k vs))->Fr (a3N T o8 fr rs k):=by induction rs with|nil=>intro k h;exact h []|cons r rs ih=>intro k h;cases r with|tmp t=>exact ih λvs=>h _|cell a t=>exact Fr.asPtr _ λad=>Fr.bind (Fr.loadV T _ _) λv=>ih λvs=>h _
theorem Fr.finK (fn:Func)(ex:Xc)(fr:List Value):Fr (c3m T o8 fn ex fr):=Fr.xcase ex (Fr.resK _ _ λ_=>Fr.pure _) (λ_=>Fr.fail) (Fr.resK _ _ λ_=>Fr.pure _) (λ_=>Fr.pure _)
theorem Fr.enterC (hc:∀f vs,Fr (call f vs))(N:Nat)(fn:Func)(f:Nat)(args:List Value):Fr (a7j p T N call fn f args):=by grind[V.a7j,Fr.bind,Fr.externV,Fr.pure,Fr.execC,Fr.finK]
theorem Fr.callC {ext:Nat->Option (List Value->M Value)}(he:∀f g,ext f=some g->∀vs,Fr (g vs))(N n:Nat):∀f vs,Fr (b7d p T ext N n f vs):=by induction n with|zero=>intro f vs;exact Fr.fail|succ n ih=>intro f vs;show Fr (match ext f with|some g=>M.bind (g vs) λv=>M.pure (CR.ret v)|none=>M.obind (T.funcs.get f) λfn=>V.a7j p T N (V.b7d p T ext N n) fn f vs);cases hx:ext f with|some g=>exact Fr.bind (he f g hx vs) λ_=>Fr.pure _|none=>grind[Fr.obind,Fr.enterC]
end
section
variable {P:Program}{T:Tab}{B0:Nat}{w0:Base}{w:World}{K:KM}{s s':S}{a:Act}{fr:List Value}{v:Value}{call:J4}
def d2R (v:Value):List PanicEntry:=[{v:=v,recovered:=false}]
def e4u (B0:Nat)(w0:Base)(K:KM)(s':S)(r:CR)(e:Ending)(w':World):Prop:=match r with|.ret v=>∃v' K',e=.returned v'/\Step B0 w0 K s' w' K'/\VR K' v' v|.pan v=>∃v' K',e=.panicked (d2R v')/\Step B0 w0 K s' w' K'/\VR K' v' v
def a8E (P:Program)(T:Tab)(B0:Nat)(w0:Base)(call:J4):Prop:=∀f vs s r s' w K vs',call f vs s=some (r,s')->Sim B0 w0 K s.h w->GK T K->a0t K s s'->VRL K vs' vs->(∃v v' w' K',r=.ret v/\(callFunc f vs'.toArray).run P w=.ok (.value v') w'/\Step B0 w0 K s' w' K'/\VR K' v' v)\/((callFunc f vs'.toArray).run P w=.ok (.enter f vs'.toArray) w/\Calls P f vs'.toArray w (e4u B0 w0 K s' r))
theorem c6X (hC:a8E P T B0 w0 call):a5c P T B0 w0 (a2a call):=by intro f vs s v s' w K vs' h S hg F hv;obtain⟨r,s1,h1,h2⟩:=D6 h;cases r with|pan u=>cases h2|ret u=>obtain⟨rfl,rfl⟩:=x8 h2;rcases hC f vs s _ _ w K vs' h1 S hg F hv with⟨x,v',w',K',e,q1,q2,q3⟩|⟨q1,q2⟩;grind;exact Or.inr ⟨q1,q2⟩
theorem c6F:a5c P T B0 w0 c3u:=λ_ _ _ _ _ _ _ _ h=>zg
def exC (K':KM):Xc->Exit->Prop|.normal,e=>e=.normal|.exit id,e=>e=.exit id|.ret,e=>e=.ret|.pan v,e=>∃v',e=.panic (d2R v')/\VR K' v' v
def a8l (B0:Nat)(w0:Base)(K:KM)(s':S)(ds:List Deferred)(ex:Xc)(fr':List Value):Exit->Act->World->Prop:=λe a' w'=>∃K',Step B0 w0 K s' w' K'/\VRL K' a'.tmps.toList fr'/\a'.defers=ds/\exC K' ex e
theorem a8l.from {s1 w1 K1 ds ex fr' e a' w'}(h1:Step B0 w0 K s1 w1 K1)(hc:s1.c<=s'.c)(h:a8l B0 w0 K1 s' ds ex fr' e a' w'):a8l B0 w0 K s' ds ex fr' e a' w':=by obtain⟨K',st,r,d,q⟩:=h;exact⟨K',h1.trans st hc,r,d,q⟩
theorem c4b {f args ga}(h:a4Z T fr f args=some ga):∃first captured vs,X5 T fr f=some (.func (.func ga.1) first captured)/\a0R T fr args=some vs/\ga.2=first.toList++(vs++captured.toList):=by
 unfold a4Z at h;cases h1:X5 T fr f with
  |none=>rw[h1]at h;cases h|some v=>
   rw[h1]at h;cases h2:a0R T fr args with
    |none=>rw[h2]at h;cases h|some vs=>
     rw[h2]at h;cases v with
      |func fn first captured=>cases fn with|func g=>cases h;exact⟨first,captured,vs,rfl,rfl,by simp only[E9]⟩|_=>cases h
      |_=>cases h
theorem d2H (hT:TabOk P T)(hC:a8E P T B0 w0 call)(hF:∀f vs,Fr (call f vs)){β}{o:Oper}{kn kp:Value->M β}{r}(h:a4g P T o8 call fr o.op kn kp s=some r)(S:Sim B0 w0 K s.h w)(F:∀s1,s1.c<=r.2.c->a0t K s s1)(hkn:∀v,Fr (kn v))(hkp:∀v,Fr (kp v))(hf:VRL K a.tmps.toList fr)(hg:GK T K){next}{Q}(hn:∀v s1 v' w' K',kn v s1=some r->Step B0 w0 K s1 w' K'->(∀K2,a0t K2 s1 r.2)->s1.c<=r.2.c->VR K' v' v->next (a.put o.dst v') w')(hp:∀v s1 v' w' K',kp v s1=some r->Step B0 w0 K s1 w' K'->(∀K2,a0t K2 s1 r.2)->s1.c<=r.2.c->VR K' v' v->Q (.panic (d2R v')) a w'):o.wp P a w next Q:=by
 have Fall:∀s1,s1.c<=r.2.c->a0t K s s1:=F;rcases c8K h with⟨v,s1,h1,h2⟩|⟨c,f,ga,cr,s1,e1,e2,e3,e4,e5⟩|⟨x,v,e1,e2,e3,e4⟩;have hle:=(hkn v).le h2;refine b0Y hT c6F h1 S (Fall _ hle) hf hg λv' w' K' st rr=>?_;exact hn v s1 v' w' K' h2 st (λK2=>a0t.right (F _ (wP _)) (Fr.stepOp P T Fr.noCall _ _) h1) hle rr;have hfr:Fr (a1B cr kn kp):=Fr.crCase cr hkn hkp;have hle:=hfr.le e5;have hfree:∀K2,a0t K2 s1 r.2:=λK2=>a0t.right (F _ (wP _)) (hF _ _) e4;obtain⟨first,captured,vs,q1,q2,q3⟩:=c4b e3;have rf:=O3 hf hg q1;have rs:=a6j hf hg q2;obtain⟨f1,c1,ef,rf1,rc1⟩:=b8l rf;have rargs:VRL K (f1.toList++(c.args.toList.map a.eval++c1.toList)) ga.2:=by rw[q3];exact rf1.append (rs.append rc1)
 have e:execOp a.eval o=callFunc ga.1 (f1.toList++(c.args.toList.map a.eval++c1.toList)).toArray:=by unfold execOp;rw[e1];show(do let d<-resolve a.eval c o.type;invoke d.target d.args)=_;unfold resolve;rw[e2];show(do let d<-Deferred.ofValue (a.eval f) (c.args.map a.eval);invoke d.target d.args)=_;rw[ef];show callFunc ga.1 (f1++c.args.map a.eval++c1)=_;congr 1;simp_all
 unfold Oper.wp;rw[e];rcases hC ga.1 ga.2 s cr s1 w K _ e4 S hg (Fall _ hle) rargs with⟨u,v',w',K',r1,r2,r3,r4⟩|⟨r1,r2⟩;subst r1;rw[r2];exact hn u s1 v' w' K' e5 r3 hfree hle r4;rw[r1];refine r2.mono λen w' hq=>?_;cases cr with|ret u=>obtain⟨v',K',rfl,t1,t2⟩:=hq;exact hn u s1 v' w' K' e5 t1 hfree hle t2|pan u=>obtain⟨v',K',rfl,t1,t2⟩:=hq;exact hp u s1 v' w' K' e5 t1 hfree hle t2
 have rx:=O3 hf hg e2;have hv:∃t y y',v=.iface t y/\a.eval x=.iface t y':=by cases v with|iface t y=>generalize hz:Value.iface t y=z at rx;generalize hu:a.eval x=u at rx;cases rx<;>grind|_=>cases e3
 obtain⟨t,y,y',rfl,ey⟩:=hv;unfold Oper.wp;have e:(execOp a.eval o).run P w=.halt (.panic (.iface t y')) w:=by simp_all[execOp,Instr.panic]
 rw[e];rw[ey]at rx;exact hp _ s _ w K e4 (Step.same S rfl) (λK2=>λi hi hi2=>F _ (wP _) i hi hi2) ((hkp _).le e4) rx
theorem d8o (hT:TabOk P T)(hC:a8E P T B0 w0 call)(hF:∀f vs,Fr (call f vs))(ops){Q}:∀(n k) (fr) (x) (s s') (K) (a) (w),k+n=ops.size->a5s P T call ops.toList (ops.toList.drop k) fr s=some (x,s')->Sim B0 w0 K s.h w->a0t K s s'->VRL K a.tmps.toList fr->GK T K->(∀e a' w',a8l B0 w0 K s' a.defers x.1 x.2 e a' w'->Q e a' w')->wpOps P ops Q (List.range' k n) a w:=by intro n;induction n with|zero=>intro k fr x s s' K a w hk h S F hf hg hq;have:ops.toList.drop k=[]:=qR zl;rw[this]at h;obtain⟨rfl,rfl⟩:=x8 h;exact hq _ a w ⟨K,Step.same S rfl,hf,rfl,rfl⟩|succ n ih=>intro k fr x s s' K a w hk h S F hf hg hq;have hlt:k<ops.size:=zy;have hd:ops.toList.drop k=ops[k]::ops.toList.drop (k+1):=xJ;rw[hd,a5d]at h;rw[qK];simp only[wpOps,sK hlt];rw[a9Q ops a.tmps hf];cases hw:a1Y ops.toList fr ops[k]with|true=>rw[hw]at h;simp only[qD]at h⊢;left;refine d2H hT hC hF h S (λs1 h1=>F.left h1) (λv=>Fr.runC hF _ _ _) (λv=>Fr.pure _) hf hg (λv s1 v' w' K' h2 st fre hle r=>?_) (λv s1 v' w' K' h2 st fre hle r=>?_);refine ih (k+1) _ x s1 s' K' _ w' zy h2 st.sim (fre K') (a8C (hf.mono st.le) _ r) (hg.mono st.le) λe a2 w2 L=>?_;rw[a3d]at L;grind[a8l.from];obtain⟨rfl,rfl⟩:=x8 h2;exact hq _ a w' ⟨K',st,hf.mono st.le,rfl,v',rfl,r⟩|false=>rw[hw]at h;simp only[uo,tN]at h⊢;refine ih (k+1) _ x s s' K _ w zy h S F (a8C hf _ (VR.undef K)) hg λe a2 w2 L=>?_;rw[a3d]at L;simp_all
theorem a8l.cases {K ds x fr' e a' w'}(hx:x≠.normal)(h:a8l B0 w0 K s' ds x fr' e a' w'):e≠.normal:=by obtain⟨K',_,_,_,q⟩:=h;cases x with|normal=>simp_all|exit id=>intro e';subst e';cases q|ret=>intro e';subst e';cases q|pan v=>obtain⟨v',rfl,_⟩:=q;simp_all
theorem b6P {next Q e a w}(he:e≠.normal)(h:Q e a w):Exit.then next Q e a w:=by cases e with|normal=>simp_all|_=>exact h
theorem d0T (hT:TabOk P T)(hM:P.follows .mixedOrders=true)(hC:a8E P T B0 w0 call)(hF:∀f vs,Fr (call f vs))(N):∀c fr s x s' K a w Q,a0m P T N call c fr s=some (x,s')->Sim B0 w0 K s.h w->a0t K s s'->VRL K a.tmps.toList fr->GK T K->(∀e a' w',a8l B0 w0 K s' a.defers x.1 x.2 e a' w'->Q e a' w')->c.wp P Q a w:=by
 have hFe:∀c fr,Fr (a0m P T N call c fr):=Fr.execC hF N;intro c;induction c with
  |skip=>intro fr s x s' K a w Q h S F hf hg hq;obtain⟨rfl,rfl⟩:=x8 h;exact wp_skip (hq _ _ _ ⟨K,Step.same S rfl,hf,rfl,rfl⟩)|region id ops draw=>intro fr s x s' K a w Q h S F hf hg hq;cases draw with|false=>have h:a5s P T call ops.toList ops.toList fr s=some (x,s'):=h;refine wp_region ?_;rw[pz];exact d8o hT hC hF ops ops.size 0 fr x s s' K a w zq zo S F hf hg hq|true=>have h:M.bind (a2t P T (a2a call) ops.toList ops.toList fr) (λy=>M.guard (a3f ops.toList (a4N ops.toList y.2) [] [] 0)<|M.pure (Xc.normal,y.1)) s=some (x,s'):=h;obtain⟨⟨fr1,feet⟩,s1,h1,h2⟩:=D6 h;obtain⟨hok,h3⟩:=I4 h2;obtain⟨rfl,rfl⟩:=x8 h3;exact b5e hT hM (c6X hC) (Fr.okCall hF) ops h1 hok S F hf hg λa' w' K' st r d=>hq _ _ _ ⟨K',st,r,d,rfl⟩
  |seq c1 c2 ih1 ih2=>
   intro fr s x s' K a w Q h S F hf hg hq;have h:M.bind (a0m P T N call c1 fr) (λr=>V3 r.1 (a0m P T N call c2 r.2) (λid=>M.pure (.exit id,r.2)) (M.pure (.ret,r.2)) (λv=>M.pure (.pan v,r.2))) s=some (x,s'):=h;obtain⟨⟨x1,fr1⟩,s1,h2,h3⟩:=D6 h;refine wp_seq ?_;by_cases hx:x1=.normal;subst hx;have h3:a0m P T N call c2 fr1 s1=some (x,s'):=h3;have hle:=(hFe _ _).le h3;refine ih1 fr s (.normal,fr1) s1 K a w _ h2 S (F.left hle) hf hg λe a' w' L=>?_;obtain⟨K1,st,r1,d1,e1⟩:=L;have e1:e=.normal:=e1;subst e1;exact ih2 fr1 s1 x s' K1 a' w' Q h3 st.sim (F.right (hFe _ _) h2) r1 (hg.mono st.le) λe a2 w2 L=>hq e a2 w2 (a8l.from st hle (d1▸L));have h4:M.pure (x1,fr1) s1=some (x,s'):=by cases x1 with|normal=>simp_all|_=>exact h3
   obtain⟨rfl,rfl⟩:=x8 h4;refine ih1 fr s _ _ K a w _ h2 S F hf hg λe a' w' L=>?_;exact b6P (L.cases hx) (hq _ _ _ L)|cond o c1 c2 ih1 ih2=>intro fr s x s' K a w Q h S F hf hg hq;obtain⟨u,e1,h1⟩:=H9 h;have r:=O3 hf hg e1;rcases b9x h1 with⟨rfl,h2⟩|⟨rfl,h2⟩;grind[wp_cond_true,b4f];grind[wp_cond_false,b4f]|block id b ih=>
   intro fr s x s' K a w Q h S F hf hg hq;obtain⟨⟨x1,fr1⟩,s1,h2,h3⟩:=D6 h;obtain⟨rfl,rfl⟩:=x8 h3;refine wp_block ?_;refine ih fr s _ _ K a w _ h2 S F hf hg λe a' w' L=>?_;obtain⟨K1,st,r1,d1,e1⟩:=L;cases x1 with
    |normal=>have e1:e=.normal:=e1;subst e1;exact hq _ _ _ ⟨K1,st,r1,d1,rfl⟩|exit id'=>have e1:e=.exit id':=e1;subst e1;show(if id'=id then Q .normal a' w' else Q (.exit id') a' w');cases hb:Nat.beq id' id with|true=>rw[vG (wK hb)];refine hq _ _ _ ⟨K1,st,r1,d1,?_⟩;grind[exC,a6c]|false=>rw[vN (λq=>zn)];refine hq _ _ _ ⟨K1,st,r1,d1,?_⟩;grind[a6c]
    |ret=>have e1:e=.ret:=e1;subst e1;exact hq _ _ _ ⟨K1,st,r1,d1,rfl⟩|pan v=>obtain⟨v',rfl,q⟩:=e1;exact hq _ _ _ ⟨K1,st,r1,d1,v',rfl,q⟩
  |loop b ih=>
   intro fr s x s' K a w Q h S F hf hg hq;have h:R7 (a0m P T N call b) N fr s=some (x,s'):=h;refine nR N ?_;have hFl:∀n fr,Fr (R7 (a0m P T N call b) n fr):=λn=>Fr.loopN (hFe b) n;have key:∀n fr s K a w,R7 (a0m P T N call b) n fr s=some (x,s')->Sim B0 w0 K s.h w->a0t K s s'->VRL K a.tmps.toList fr->GK T K->(∀e a' w',a8l B0 w0 K s' a.defers x.1 x.2 e a' w'->Q e a' w')->Code.rounds P b Q n a w:=by
    intro n;induction n with
     |zero=>intro fr s K a w h;cases h|succ n ihn=>
      intro fr s K a w h S F hf hg hq;rw[Z5]at h;obtain⟨⟨x1,fr1⟩,s1,h2,h3⟩:=D6 h;show b.wp P (Exit.then (Code.rounds P b Q n) Q) a w;by_cases hx:x1=.normal;subst hx;have h3:R7 (a0m P T N call b) n fr1 s1=some (x,s'):=h3;have hle:=(hFl _ _).le h3;refine ih fr s (.normal,fr1) s1 K a w _ h2 S (F.left hle) hf hg λe a' w' L=>?_;obtain⟨K1,st,r1,d1,e1⟩:=L;have e1:e=.normal:=e1;subst e1;exact ihn fr1 s1 K1 a' w' h3 st.sim (F.right (hFe _ _) h2) r1 (hg.mono st.le) λe a2 w2 L=>hq e a2 w2 (a8l.from st hle (d1▸L));have h4:M.pure (x1,fr1) s1=some (x,s'):=by cases x1 with|normal=>simp_all|_=>exact h3
      obtain⟨rfl,rfl⟩:=x8 h4;refine ih fr s _ _ K a w _ h2 S F hf hg λe a' w' L=>?_;exact b6P (L.cases hx) (hq _ _ _ L)
   grind|exit id=>intro fr s x s' K a w Q h S F hf hg hq;obtain⟨rfl,rfl⟩:=x8 h;exact wp_exit (hq _ _ _ ⟨K,Step.same S rfl,hf,rfl,rfl⟩)|ret=>intro fr s x s' K a w Q h S F hf hg hq;obtain⟨rfl,rfl⟩:=x8 h;exact wp_ret (hq _ _ _ ⟨K,Step.same S rfl,hf,rfl,rfl⟩)|_=>intro fr s x s' K a w Q h;cases h
theorem d7L {β}(fr rs):∀(k:List Value->M β),a3N T o8 fr rs k=M.bind (a3Q T fr rs) k:=by
 induction rs with
  |nil=>intro k;rfl|cons r rs ih=>
   intro k;cases r with
    |tmp t=>show a3N T o8 fr rs (λvs=>k (D5 fr t::vs))=M.bind (M.bind (a3Q T fr rs) λvs=>M.pure (D5 fr t::vs)) k;rw[a2f,ih];rfl|cell ad t=>
     show a0C (D5 fr ad) (λad=>M.bind (a4R T t ad) λv=>a3N T o8 fr rs λvs=>k (v::vs))=M.bind (a0C (D5 fr ad) λad=>M.bind (a4R T t ad) λv=>M.bind (a3Q T fr rs) λvs=>M.pure (v::vs)) k;cases D5 fr ad with
      |pointer o=>cases o with|none=>rfl|some ad=>show M.bind (a4R T t ad) (λv=>a3N T o8 fr rs λvs=>k (v::vs))=M.bind (M.bind (a4R T t ad) λv=>M.bind (a3Q T fr rs) λvs=>M.pure (v::vs)) k;rw[a2f];congr 1;funext v;rw[ih,a2f];rfl
      |_=>rfl
theorem d1W {fn ex r}(h:c3m T o8 fn ex fr s=some (r,s')):((ex=.normal\/ex=.ret)/\∃v,r=.ret v/\b1P T fn (.ret,fr) s=some (v,s'))\/∃v,ex=.pan v/\r=.pan v/\s'=s:=by
 have key:a3N T o8 fr fn.results.toList (λvs=>M.pure (CR.ret (a8a vs))) s=some (r,s')->∃v,r=.ret v/\b1P T fn (.ret,fr) s=some (v,s'):=by intro h;rw[d7L]at h;obtain⟨vs,s1,h1,h2⟩:=D6 h;obtain⟨rfl,rfl⟩:=x8 h2;refine⟨a8a vs,rfl,?_⟩;show M.bind (a3Q T fr fn.results.toList) (λvs=>M.pure (a8a vs)) s=_;exact a1r h1 rfl
 cases ex with|normal=>exact Or.inl ⟨Or.inl rfl,key h⟩|exit id=>cases h|ret=>exact Or.inl ⟨Or.inr rfl,key h⟩|pan v=>obtain⟨rfl,rfl⟩:=x8 h;simp_all
theorem c8A (hT:TabOk P T)(hM:P.follows .mixedOrders=true){ext}(hE:c0m P T B0 w0 ext)(N n):a8E P T B0 w0 (b7d P T ext N n):=by
 induction n with
  |zero=>intro f vs s r s' w K vs' h;cases h|succ n ih=>
   intro f vs s r s' w K vs' h S hg F hvs;have h0:(match ext f with|some g=>M.bind (g vs) λv=>M.pure (CR.ret v)|none=>M.obind (T.funcs.get f) λfn=>a7j P T N (b7d P T ext N n) fn f vs) s=some (r,s'):=h;have hFc:=Fr.callC (p:=P) (T:=T) hE.1 N n;cases hx:ext f with
    |some g=>rw[hx]at h0;obtain⟨v,s1,h1,h2⟩:=D6 h0;obtain⟨rfl,rfl⟩:=x8 h2;rcases hE.2 f g hx vs s v _ w K vs' h1 S hg F hvs with⟨v',w',K',q1,q2,q3⟩|⟨q1,q2⟩;grind;exact Or.inr ⟨q1,q2⟩|none=>
     rw[hx]at h0;obtain⟨fn,hfn,h1⟩:=H9 h0;obtain⟨hPf,hnum⟩:=hT.funcs f fn hfn;unfold a7j at h1;cases hb:fn.body with
      |none=>
       rw[hb]at h1;obtain⟨v,s1,h2,h3⟩:=D6 h1;obtain⟨rfl,rfl⟩:=x8 h3;have h4:a7o P T (λ_=>none) 1 f vs s=some (v,s'):=by show M.obind (T.funcs.get f) (λfn=>enter P T (a7o P T (λ_=>none) 0) 0 fn f vs) s=_;rw[hfn];show enter P T (a7o P T (λ_=>none) 0) 0 fn f vs s=_;simp_all[enter]
       rcases b3p hT hM (ext:=λ_=>none) (B0:=B0) (w0:=w0) ⟨λ_ _ q=>ze,λ_ _ q=>ze⟩ 1 f vs s v s' w K vs' h4 S hg F hvs with⟨v',w',K',q1,q2,q3⟩|⟨q1,q2⟩;grind;exact Or.inr ⟨q1,q2⟩|some c=>right;rw[hb]at h1;obtain⟨⟨ex,fr1⟩,s1,h2,h3⟩:=D6 h1;have hle:s1.c<=s'.c:=(Fr.finK fn ex fr1).le h3;refine⟨?_,?_⟩;simp_all[callFunc];refine calls_of_wp hPf hb ?_;rw[E9,G8,b4a]at h2;refine d0T hT hM ih hFc N c _ s (ex,fr1) s1 K _ w _ h2 S (F.left hle) ?_ hg λe a' w' L=>?_;show VRL K (vs'.toArray++Array.replicate (fn.ntmps-vs'.toArray.size) undef).toList (vs++List.replicate (fn.ntmps-vs.length) undef);simp only[sD,rR,sO,hvs.len];exact hvs.append (VRL.replicate _);obtain⟨K1,st,r1,d1,e1⟩:=L;rcases d1W h3 with⟨hex,v,rfl,hfin⟩|⟨v,hex,rfl,rfl⟩;obtain⟨f1,f2,f3,v',f4,f5⟩:=b7a hT hfin r1 st.sim;have st2:Step B0 w0 K s' w' K1:=⟨st.le,λi g hi=>st.far i g zy,by rw[f2];exact st.sim⟩;rcases hex with rfl|rfl;have e1:e=.normal:=e1;subst e1;exact⟨d1,v',f4,v',K1,rfl,st2,f5⟩;have e1:e=.ret:=e1;subst e1;exact⟨d1,v',f4,v',K1,rfl,st2,f5⟩;subst hex;obtain⟨v',rfl,q⟩:=e1;exact⟨d1,v',K1,rfl,st,q⟩
theorem Le.foot {α}{m m':M α}(h:Le m m'):Le (M.foot m) (M.foot m'):=λs r e=>by unfold M.foot at e⊢;cases hm:m ⟨s.c,s.h,[],[]⟩with|none=>rw[hm]at e;cases e|some x=>rw[hm]at e;rw[h _ _ hm];exact e
theorem Le.xcase {β:Type}{x:Xc}{a a':M β}{b b':Nat->M β}{c c':M β}{d d':Value->M β}(h1:Le a a')(h2:∀i,Le (b i) (b' i))(h3:Le c c')(h4:∀v,Le (d v) (d' v)):Le (V3 x a b c d) (V3 x a' b' c' d'):=a7s (λ_=>h1) (λi _=>h2 i) (λ_=>h3) (λv _=>h4 v)
section
variable {c c':J4}(hc:∀f vs,Le (c f vs) (c' f vs))
include hc
theorem c3L (f vs):Le (a2a c f vs) (a2a c' f vs):=Le.bind (hc f vs) λ_=>Le.refl _
theorem c7l {β}(fr o){kn kp kn' kp':Value->M β}(h1:∀v,Le (kn v) (kn' v))(h2:∀v,Le (kp v) (kp' v)):Le (a4g P T o8 c fr o kn kp) (a4g P T o8 c' fr o kn' kp'):=by
 have hs:∀m:M Value,Le (o8.bv β m kn) (o8.bv β m kn'):=λm=>Le.bind (Le.refl _) h1;cases o with
  |move x=>exact Le.obind λv _=>h1 v|assign x=>exact Le.obind λv _=>h1 v|call cl=>
   obtain⟨cal,args,ts⟩:=cl;cases cal with
    |value f=>refine Le.obind λga _=>?_;show Le (M.bind (c ga.1 ga.2) λr=>a1B r kn kp) (M.bind (c' ga.1 ga.2) λr=>a1B r kn' kp');refine Le.bind (hc _ _) λr=>?_;cases r with|ret v=>exact h1 v|pan v=>exact h2 v
    |builtin b=>exact hs _|invoke r m=>exact Le.fail _
  |panic x=>refine Le.obind λv _=>?_;cases a5u v with|true=>exact h2 v|false=>exact Le.fail _
  |_=>exact hs _
theorem c8Z (ops os):∀fr,Le (a5s P T c ops os fr) (a5s P T c' ops os fr):=by induction os with|nil=>intro fr;exact Le.refl _|cons o os ih=>grind[a5d,c7l,Le.refl]
theorem c3V (fr o):Le (Z4 P T (a2a c) fr o) (Z4 P T (a2a c') fr o):=by
 unfold Z4;cases b1v o with
  |none=>exact Le.refl _|some cl=>
   obtain⟨cal,args,ts⟩:=cl;cases cal with
    |value f=>
     show Le (a5i T fr f args.toList (a2a c)) (a5i T fr f args.toList (a2a c'));unfold a5i ev evs;refine Le.obind λv _=>Le.obind λvs _=>?_;cases v with
      |func fn first captured=>cases fn<;>first|rfl|grind[c3L,Le.fail]
      |_=>exact Le.fail _
    |builtin b=>exact Le.refl _|invoke r m=>exact Le.fail _
theorem d0j (ops os):∀fr,Le (a2t P T (a2a c) ops os fr) (a2t P T (a2a c') ops os fr):=by induction os with|nil=>intro fr;exact Le.refl _|cons o os ih=>grind[a7L,Le.bind,Le.foot,c3V,Le.refl]
theorem c8l (N):∀k fr,Le (a0m P T N c k fr) (a0m P T N c' k fr):=by
 intro k;induction k with
  |region id ops draw=>intro fr;cases draw with|false=>exact c8Z hc _ _ _|true=>show Le (M.bind (a2t P T (a2a c) ops.toList ops.toList fr) λy=>M.guard (a3f ops.toList (a4N ops.toList y.2) [] [] 0)<|M.pure (Xc.normal,y.1)) (M.bind (a2t P T (a2a c') ops.toList ops.toList fr) λy=>M.guard (a3f ops.toList (a4N ops.toList y.2) [] [] 0)<|M.pure (Xc.normal,y.1));grind[Le.bind,d0j,Le.refl]
  |seq a b iha ihb=>intro fr;exact Le.bind (iha fr) λr=>Le.xcase (ihb _) (λ_=>Le.refl _) (Le.refl _) (λ_=>Le.refl _)|cond x a b iha ihb=>
   intro fr;refine Le.obind λv _=>?_;cases v with
    |bool t=>cases t with|true=>exact iha fr|false=>exact ihb fr
    |_=>exact Le.fail _
  |block id b ih=>intro fr;exact Le.bind (ih fr) λr=>Le.refl _|loop b ih=>
   intro fr;have key:∀n fr,Le (R7 (a0m P T N c b) n fr) (R7 (a0m P T N c' b) n fr):=by intro n;induction n with|zero=>intro fr;exact Le.fail _|succ n ihn=>grind[Z5,Le.bind,Le.xcase,Le.refl]
   exact key N fr|_=>intro fr;exact Le.refl _
theorem c4m (N fn f args):Le (a7j P T N c fn f args) (a7j P T N c' fn f args):=by grind[a7j,Le.refl,Le.bind,c8l]
end
noncomputable def atF (P:Program)(T:Tab)(ext:Nat->Option (List Value->M Value))(N f:Nat)(call:J4)(args:List Value):M CR:=match ext f with|some g=>M.bind (g args) λv=>M.pure (CR.ret v)|none=>M.obind (T.funcs.get f) λfn=>a7j P T N call fn f args
def a7S (P:Program)(T:Tab)(ext:Nat->Option (List Value->M Value))(N:Nat)(sh:a2x):Prop:=∀f g,sh.get f=some g->∀call args,Le (g call args) (atF P T ext N f call args)
theorem d3K {ext N sh}(h:a7S P T ext N sh)(n):∀f vs,Le (o9 sh n f vs) (b7d P T ext N n f vs):=by induction n with|zero=>intro f vs;exact Le.fail _|succ n ih=>intro f vs;show Le (M.obind (sh.get f) λg=>g (o9 sh n) vs) (atF P T ext N f (b7d P T ext N n) vs);cases hg:sh.get f with|none=>exact Le.fail _|some g=>refine Le.trans (h f g hg _ _) ?_;grind[atF,Le.refl,Le.obind,c4m]
theorem b1r {ext N f fn c}(he:ext f=none)(hf:T.funcs.get f=some fn)(hb:fn.body=some c)(pn pl){call args m}(h:a3v P T a4b pn N call fn c pl args=m):Le m (atF P T ext N f call args):=by subst h;unfold atF;rw[he,hf];show Le _ (a7j P T N call fn f args);unfold a7j a3v;rw[hb,a6r];exact d2l N c pl CR _ _ (λex fr=>c3m T o8 fn ex fr) λ_ _=>Le.refl _
theorem d7G {ext N f g}(he:ext f=some g){call args}:Le (M.bind (g args) λv=>M.pure (CR.ret v)) (atF P T ext N f call args):=by grind[atF,Le.refl]
theorem b0U (hT:TabOk P T)(hM:P.follows .mixedOrders=true){ext}(hE:c0m P T B0 w0 ext){N sh}(hs:a7S P T ext N sh)(n):a8E P T B0 w0 (o9 sh n):=λf vs s r s' w K vs' h=>c8A hT hM hE N n f vs s r s' w K vs' (d3K hs n f vs s _ h)
end
end Go.V
end
noncomputable section
namespace Go.V
abbrev R2:=Xc×List Value
def noP {β:Type}:Value->M β:=λ_=>M.fail
def a7e (v:Value):M Value:=a0C v λa=>M.bind (loadN a 1) λvs=>M.pure (D5 vs 0)
def b1A (n:Nat)(v:Value):M Value:=a0C v λa=>M.bind (loadN a n) λvs=>M.pure (.agg ⟨vs⟩)
def a9C (n:Nat)(va v:Value):M Value:=a0C va λa=>M.bind (M.guard (!(Nat.beq n 0)&&Nat.beq (z8 v.cells.toList) n)<|storeN a v.cells.toList) λ_=>M.pure undef
def d2g (zs:List Value):M Value:=M.bind (Y9 zs) λa=>M.pure (.pointer (some a))
def a8J (v:Value):M Value:=M.guard (!(a2W v.cells.toList))<|M.bind (Y9 v.cells.toList) λa=>M.pure (.pointer (some a))
def a5R (os:List (Nat×Nat)):List Value->List Value->Option (List Value):=List.rec (motive:=λ_=>List Value->List Value->Option (List Value)) (λ_ cs=>some cs) (λq _ ih vs cs=>match vs with|[]=>none|v::vs=>match Nat.beq (z8 v.cells.toList) q.2&&Nat.ble (q.1+q.2) (z8 cs)with|true=>ih vs (a3h v.cells.toList cs q.1)|false=>none) os
def d0c (os:List (Nat×Nat))(vs zs:List Value):M Value:=M.obind (a5R os vs zs) λcs=>M.pure (.agg ⟨cs⟩)
def b5M (n len:Nat)(os:List (Nat×Nat))(vs zs:List Value):M Value:=M.obind (a5R os vs zs) λcs=>M.bind (Y9 cs) λa=>M.pure (.slice (some a) len n)
def e3j (v:Value):M Value:=match v with|.pointer a=>M.guard a.isSome<|M.pure (.pointer a)|.func fn a b=>M.guard (c1R fn)<|M.pure (.func fn a b)|_=>M.fail
def a4u (vc va vb:Value):M Value:=match vc with
 |.bool t=>match t with|true=>M.pure va|false=>M.pure vb
 |_=>M.fail
def c1j (k:IntKind)(x:Value):M Value:=match x with|.int _ n=>M.pure (.int k (Q0 k n))|_=>M.fail
def xFA (off:Nat)(x:Value):M Value:=a0C x λa=>M.pure (.pointer (some (fwd a off)))
def xF1 (off:Nat)(x:Value):M Value:=match x with|.agg cs=>M.obind (a0k cs.toList off) M.pure|_=>M.fail
def xFN (off n:Nat)(x:Value):M Value:=match x with|.agg cs=>M.pure (.agg ⟨a0B (G7 cs.toList off) n⟩)|_=>M.fail
def elemAtN (n:Nat)(a:Addr)(i len:Nat):M Value:=M.guard (Nat.blt i len&& !(Nat.beq n 0))<|M.pure (.pointer (some (fwd a (i*n))))
def a6U (n:Nat)(x ix:Value):M Value:=M.obind (a8f ix) λi=>match x with|.slice a len es=>M.obind a λa=>M.guard (Nat.beq es n)<|elemAtN n a i len|_=>M.fail
def c7E (n len:Nat)(x ix:Value):M Value:=M.obind (a8f ix) λi=>a0C x λa=>elemAtN n a i len
def b6W (a b:Value):M Value:=M.obind (a8f b) λj=>match a with|.string s=>M.obind (a0k s.data.toList j) λb=>M.pure (a7l b)|_=>M.fail
def d9P (i:Nat)(a:Value):M Value:=match a with|.tuple vs=>M.obind (a0k vs.toList i) M.pure|_=>M.fail
def a7T (x:Value):M Value:=match x with|.string s=>M.pure (goInt (z8 s.data.toList))|_=>M.fail
def b2F (x:Value):M Value:=match x with|.slice _ n _=>M.pure (goInt n)|_=>M.fail
def a4c (e:TI)(s x:Value):M Value:=M.bind (a9p e.size x) λvs=>fList vs λvs=>a1P e s vs
def a5H (x:Value)(lo hi:Option Value):M Value:=match x with|.string s=>a7Y s lo hi|_=>M.fail
def cutN (n:Nat)(a:Addr)(len:Nat)(lo hi:Option Value):M Value:=M.obind (a3n 0 lo) λl=>M.obind (a3n len hi) λh=>M.guard (Nat.ble l h&&Nat.ble h len&& !(Nat.beq n 0))<|M.pure (.slice (some (fwd a (l*n))) (h-l) n)
def a7N (n:Nat)(x:Value)(lo hi:Option Value):M Value:=match x with
 |.slice a len es=>match a with|some a=>M.guard (Nat.beq es n)<|cutN n a len lo hi|none=>M.guard (Nat.beq len 0)<|cutNil lo hi
 |_=>M.fail
def d5w (fn:Fn)(va vb:List Value):M Value:=M.pure (.func fn ⟨va⟩ ⟨vb⟩)
section
variable (p:Program)(T:Tab)
def a0L (op:BinOp)(t:TypeId)(x y:Operand)(a b:Value):M Value:=match a with
 |.int k n=>match b with
  |.int k' m=>match a3w op k k' n m with|some v=>M.pure v|none=>a9H p T op t x y a b
  |_=>M.fail
 |.string s=>match b with|.string s'=>M.lift (b4e op s.data.toList s'.data.toList)|_=>M.fail
 |_=>a9H p T op t x y a b
def xUn (op:UnOp)(a:Value):M Value:=M.guard (plain a)<|pureV (a0E p (Op.unary op a))
def c3z (ts:Array TypeId)(vs:List Value):M Value:=M.guard (J7 plain vs)<|pureV (a0E p (Builtin.max_ ts 0 ⟨vs⟩))
def f1x (ts:Array TypeId)(vs:List Value):M Value:=M.guard (J7 plain vs)<|pureV (a0E p (Builtin.min_ ts 0 ⟨vs⟩))
def b7Z (t:TypeId)(a b v:Value):M Value:=M.bind (a6N T t a b v) λ_=>M.pure undef
def c8c:M Value:=M.bind (new (.map [])) λb=>M.pure (.map (some b))
def e5j (v:Value):M Value:=M.guard (b6O v)<|M.bind (new (.map [])) λb=>M.pure (.map (some b))
def e0z (v:Value):M Value:=match v with|.string s=>M.bind (new (.siter s 0)) λb=>M.pure (.pointer (some ⟨b,0,some 0⟩))|_=>M.fail
def e5w (v:Value):M Value:=a0C v λa=>M.guard (Nat.beq a.off 0&&c9c a.spot)<|M.bind (rd a.block) λo=>match o with|.siter s pos=>b3k a.block s pos|_=>M.fail
end
def b0y (f:Func):Code:=match f.body with|some c=>c|none=>.skip
end Go.V
end
noncomputable section
namespace Go.V
theorem O5 {β}(m k):o8.bv β m k=M.bind m k:=wH rfl rfl
theorem V6 {β}(m kn kp):o8.bc β m kn kp=M.bind m λr=>a1B r kn kp:=wH rfl rfl
theorem U0 {β}(m k):o8.bj β m k=M.bind m λr=>k r.1 r.2:=wH rfl rfl
theorem a6s (b n x):o8.lp b n x=R7 b n x:=wH rfl rfl
theorem b7K {β}(v)(kn kp:Value->M β):a1B (.ret v) kn kp=kn v:=wH rfl rfl
theorem G5 {β}(a:M β)(b c d):V3 .normal a b c d=a:=wH rfl rfl
theorem a1s {β}(i)(a:M β)(b c d):V3 (.exit i) a b c d=b i:=wH rfl rfl
theorem a2l {β}(a:M β)(b c d):V3 .ret a b c d=c:=wH rfl rfl
theorem D8 {α}(x y:α):bcase true x y=x:=wH rfl rfl
theorem A8 {α}(x y:α):bcase false x y=y:=wH rfl rfl
theorem M4 (b):a1W true (.bool b)=b:=zi
theorem I7 (b):a1W false (.bool b)=!b:=zi
theorem J9 {β}(b)(x y:M β):a5Z (.bool b) x y=bcase b x y:=wH rfl rfl
theorem L8 {α}(b)(x y:α):bcase b (M.pure x) (M.pure y)=M.pure (bcase b x y):=zi
theorem K8 (b)(x:Xc)(l m:List Value):bcase b (x,l) (x,m)=(x,bcase b l m):=zi
theorem K9 (b l m i):D5 (bcase b l m) i=bcase b (D5 l i) (D5 m i):=zi
theorem a4U {α}(b)(x y:α):bcase (!b) x y=bcase b y x:=zi
theorem a2s (b c):a4u (.bool b) (bcase b (.bool c) undef) (.bool false)=M.pure (.bool (b&&c)):=zi
theorem b0g (b c):a4u (.bool b) (.bool true) (bcase b undef (.bool c))=M.pure (.bool (b||c)):=zi
theorem X3 (v l):D5 (v::l) 0=v:=wH rfl rfl
theorem Y0 (v l i):D5 (v::l) (i+1)=D5 l i:=wH rfl rfl
section
variable (p:Program)(T:Tab)
theorem a6n {op t x y k n m v}(h1:a6o (a5v op k) n m=none)(h:b4R op k n m=some v):a0L p T op t x y (.int k n) (.int k m)=M.pure v:=by
 have hk:a0A k k=true:=by cases k<;>rfl
 have:a3w op k k n m=some v:=by grind[a3w]
 grind[a0L]
theorem a6u {op}(h:op≠.shl)(h':op≠.shr)(k n m):a6o (a5v op k) n m=none:=by
 unfold a6o;cases n with
  |ofNat n=>
   cases m with
    |ofNat m=>cases op<;>first|rfl|exact absurd rfl h|exact absurd rfl h'
    |negSucc m=>rfl
  |negSucc n=>rfl
theorem G6 (t x y k n m):a0L p T .lss t x y (.int k n) (.int k m)=M.pure (.bool (decide (n<m))):=a6n p T (a6u zu zu _ _ _) rfl
theorem a5o (t x y k n m):a0L p T .leq t x y (.int k n) (.int k m)=M.pure (.bool (decide (n<=m))):=a6n p T (a6u zu zu _ _ _) rfl
theorem M6 (t x y k n m):a0L p T .gtr t x y (.int k n) (.int k m)=M.pure (.bool (decide (m<n))):=a6n p T (a6u zu zu _ _ _) rfl
theorem a1C (t x y k n m):a0L p T .geq t x y (.int k n) (.int k m)=M.pure (.bool (decide (m<=n))):=a6n p T (a6u zu zu _ _ _) rfl
theorem R9 (t x y k n m):a0L p T .eql t x y (.int k n) (.int k m)=M.pure (.bool (decide (n=m))):=a6n p T (a6u zu zu _ _ _) rfl
theorem a4G (t x y k n m):a0L p T .neq t x y (.int k n) (.int k m)=M.pure (.bool (!(decide (n=m)))):=a6n p T (a6u zu zu _ _ _) rfl
theorem J6 (t x y k n m):a0L p T .add t x y (.int k n) (.int k m)=M.pure (.int k (Q0 k (n+m))):=a6n p T (a6u zu zu _ _ _) rfl
theorem S9 (t x y k n m):a0L p T .sub t x y (.int k n) (.int k m)=M.pure (.int k (Q0 k (n-m))):=a6n p T (a6u zu zu _ _ _) rfl
theorem Q6 (b):xUn p .not (.bool b)=M.pure (.bool (!b)):=zi
end
theorem a1L (s j b)(h:s.data.toList[j]?=some b):b6W (.string s) (.int .i64 (.ofNat j))=M.pure (.int .u8 (.ofNat b.toNat)):=by unfold b6W;show M.obind (a0k s.data.toList j) (λb=>M.pure (a7l b))=_;rw[a2T,h];rfl
theorem a3W (s):a7T (.string s)=M.pure (.int .i64 (.ofNat s.data.toList.length)):=by unfold a7T;simp only[G8];rfl
end Go.V
end
noncomputable section
namespace Go.V
def ar0 (f:J4->M CR):J4->List Value->M CR:=λcall args=>match args with|[]=>f call|_=>M.fail
def ar1 (f:J4->Value->M CR):J4->List Value->M CR:=λcall args=>match args with|[a]=>f call a|_=>M.fail
def ar2 (f:J4->Value->Value->M CR):J4->List Value->M CR:=λcall args=>match args with|[a,b]=>f call a b|_=>M.fail
def ar3 (f:J4->Value->Value->Value->M CR):J4->List Value->M CR:=λcall args=>match args with|[a,b,c]=>f call a b c|_=>M.fail
def ar4 (f:J4->Value->Value->Value->Value->M CR):J4->List Value->M CR:=λcall args=>match args with|[a,b,c,d]=>f call a b c d|_=>M.fail
def ar5 (f:J4->Value->Value->Value->Value->Value->M CR):J4->List Value->M CR:=λcall args=>match args with|[a,b,c,d,e]=>f call a b c d e|_=>M.fail
def arX (g:List Value->M Value):J4->List Value->M CR:=λ_ args=>M.bind (g args) λv=>M.pure (.ret v)
section
variable {P:Program}{T:Tab}{ext:Nat->Option (List Value->M Value)}{N f:Nat}{fn:Func}{c:Code}{pn:Bool}{pl:Pl}
def Fit (P:Program)(T:Tab)(ext:Nat->Option (List Value->M Value))(N f:Nat)(g:J4->List Value->M CR):Prop:=∀call args,Le (g call args) (atF P T ext N f call args)
theorem e3N {sh:Cb->Nat->J4->M CR}(he:ext f=none)(hf:T.funcs.get f=some fn)(hb:fn.body=some c)(h:∀cb N call,a3v P T cb pn N call fn c pl []=sh cb N call):Fit P T ext N f (ar0 (sh a4b N)):=by intro call args;unfold ar0;grind[b1r,Le.fail]
theorem e6z {sh:Cb->Nat->J4->Value->M CR}(he:ext f=none)(hf:T.funcs.get f=some fn)(hb:fn.body=some c)(h:∀cb N call a,a3v P T cb pn N call fn c pl [a]=sh cb N call a):Fit P T ext N f (ar1 (sh a4b N)):=by intro call args;unfold ar1;grind[b1r,Le.fail]
theorem e4x {sh:Cb->Nat->J4->Value->Value->M CR}(he:ext f=none)(hf:T.funcs.get f=some fn)(hb:fn.body=some c)(h:∀cb N call a b,a3v P T cb pn N call fn c pl [a,b]=sh cb N call a b):Fit P T ext N f (ar2 (sh a4b N)):=by intro call args;unfold ar2;grind[b1r,Le.fail]
theorem e5B {sh:Cb->Nat->J4->Value->Value->Value->M CR}(he:ext f=none)(hf:T.funcs.get f=some fn)(hb:fn.body=some c)(h:∀cb N call a b d,a3v P T cb pn N call fn c pl [a,b,d]=sh cb N call a b d):Fit P T ext N f (ar3 (sh a4b N)):=by intro call args;unfold ar3;grind[b1r,Le.fail]
theorem e7a {sh:Cb->Nat->J4->Value->Value->Value->Value->M CR}(he:ext f=none)(hf:T.funcs.get f=some fn)(hb:fn.body=some c)(h:∀cb N call a b d e,a3v P T cb pn N call fn c pl [a,b,d,e]=sh cb N call a b d e):Fit P T ext N f (ar4 (sh a4b N)):=by intro call args;unfold ar4;grind[b1r,Le.fail]
theorem e3O {sh:Cb->Nat->J4->Value->Value->Value->Value->Value->M CR}(he:ext f=none)(hf:T.funcs.get f=some fn)(hb:fn.body=some c)(h:∀cb N call a b d e g,a3v P T cb pn N call fn c pl [a,b,d,e,g]=sh cb N call a b d e g):Fit P T ext N f (ar5 (sh a4b N)):=by intro call args;unfold ar5;grind[b1r,Le.fail]
theorem d4G {g}(he:ext f=some g):Fit P T ext N f (arX g):=λ_ _=>d7G he
inductive OAll (Q:(J4→List Value→M CR)→Prop):Option (J4→List Value→M CR)→Prop
 | none:OAll Q Option.none
 | some {g:J4→List Value→M CR}:Q g→OAll Q (Option.some g)
inductive TAll:(Nat→(J4→List Value→M CR)→Prop)→a2x→Prop
 | leaf {Q:Nat→(J4→List Value→M CR)→Prop}:TAll Q .leaf
 | node {Q:Nat→(J4→List Value→M CR)→Prop} {v:Option (J4→List Value→M CR)} {l r:a2x}:OAll (Q 0) v→TAll (fun k=>Q (2 * k+1)) l→TAll (fun k=>Q (2 * k+2)) r→TAll Q (.node v l r)
theorem TAll.get {Q t}(h:TAll Q t):∀f g,t.get f=some g->Q f g:=by
 induction h with
  |leaf=>intro f g e;cases e|node hv _ _ ihl ihr=>
   intro f g e;cases f with
    |zero=>cases hv with|none=>cases e|some q=>cases e;exact q
    |succ k=>rw[Trie.get_node_succ]at e;grind
end
end Go.V
end
noncomputable section
namespace Go.V
open Go.RowKit (Below)
abbrev a2Q:=List (List Value)
def b4g (vs:a2Q):Nat->Trie VObj->Trie VObj:=List.rec (motive:=λ_=>Nat->Trie VObj->Trie VObj) (λ_ t=>t) (λv _ ih i t=>Trie.putK (some (.cells (K4 (λx=>(x,0)) v) 0 true)) (i+1) t i λt=>ih (i+1) t) vs
def a3p (vs:a2Q):S:=⟨z8 vs,b4g vs 0 .leaf,[],[]⟩
structure LaidV (vs:a2Q) (w:World):Prop where
 size:vs.length≤w.heap.size
 cell:∀ (g:Nat) (l:List Value),vs[g]?=some l→∀ (off:Nat) v,l[off]?=some v→w.cell? ⟨g,off,none⟩=some v
 row:∀ (g:Nat) (l:List Value),vs[g]?=some l→l≠[]→∃ t fz,w.heap[g]?=some (.cells ⟨l⟩ t fz)
theorem LaidV.below {vs B w w'}(h:LaidV vs w)(b:Below B w w')(hB:vs.length<=B):LaidV vs w':=⟨vR h.size b.size,λg l hg off v hv=>by have hlt:g<vs.length:=(wM.1 hg).1;rw[show w'.cell? ⟨g,off,none⟩=w.cell? ⟨g,off,none⟩from tC (w:=w) (b.block g zy)];exact h.cell g l hg off v hv,λg l hg hl=>by have hlt:g<vs.length:=(wM.1 hg).1;rw[b.block g zy];exact h.row g l hg hl⟩
theorem c3R (vs:a2Q):∀(i:Nat) (t:Trie VObj) (j:Nat),(b4g vs i t).get j=if i<=j then(match vs[j-i]? with|some l=>some (.cells (l.map λx=>(x,0)) 0 true)|none=>t.get j)else t.get j:=by
 induction vs with
  |nil=>intro i t j;show t.get j=_;split<;>simp|cons v vs ih=>
   intro i t j;show(Trie.putK (some (.cells (K4 (λx=>(x,0)) v) 0 true)) (i+1) t i λt=>b4g vs (i+1) t).get j=_;rw[Trie.putK_eq,ih,a0N];by_cases h1:i+1<=j;rw[vG h1,vG zy,show j-i=(j-(i+1))+1 by omega,tV];cases vs[j-(i+1)]? with|some l=>rfl|none=>simp only;rw[Trie.get_put _ _ _ _ zy,vN zy]
   rw[vN h1];by_cases h2:i<=j;obtain rfl:j=i:=zy;rw[vG h2,Trie.get_put _ _ _ _ zy,vG rfl];simp;rw[vN h2,Trie.get_put _ _ _ _ zy,vN zy]
section
variable {P:Program}{T:Tab}{w:World}{vs:a2Q}
def a6a (vs:a2Q):KM:=λb g=>if b<vs.length/\g=0 then some ⟨b,0,0,0,false⟩else none
theorem a2Z {b g l}(h:a6a vs b g=some l):b<vs.length/\g=0/\l=⟨b,0,0,0,false⟩:=by unfold a6a at h;simp_all
theorem a0K (j:Nat):(a3p vs).h.get j=match vs[j]? with|some l=>some (.cells (l.map λx=>(x,0)) 0 true)|none=>none:=by show(b4g vs 0 .leaf).get j=_;rw[c3R,vG (vH _),ql];rfl
theorem b1b {R}(hR:∀k,w.heap.size<=k->R k)(hR0:∀k,k<vs.length->R k)(hL:LaidV vs w)(hp:∀l∈vs,∀v∈l,plain v=true):Sim w.heap.size ⟨w,R⟩ (a6a vs) (a3p vs).h w:=by
 have hcs:∀b cs cur ro,(a3p vs).h.get b=some (.cells cs cur ro)->∃l,vs[b]?=some l/\cs=l.map (λx=>(x,0))/\cur=0/\ro=true:=by intro b cs cur ro h;rw[a0K]at h;grind
 refine⟨⟨wP _,hR⟩,rZ _ _,?_,?_,?_,?_,?_,?_,?_,?_,?_,?_,λb g l h _=>(a2Z h).2.1⟩;intro b g l h;obtain⟨h1,_,rfl⟩:=a2Z h;exact⟨wD h1 hL.size,hR0 _ h1⟩;intro b g l h;obtain⟨h1,_,rfl⟩:=a2Z h;rw[a0K,wO h1];simp_all;intro b g l h ho;obtain⟨_,_,rfl⟩:=a2Z h;cases ho;intro b g l b' g' l' h _ _ ho;obtain⟨_,_,rfl⟩:=a2Z h;cases ho;intro b g l g' l' h h';obtain⟨_,_,rfl⟩:=a2Z h;obtain⟨_,_,rfl⟩:=a2Z h';simp_all;intro b g l cs cur ro h ho;obtain⟨_,_,rfl⟩:=a2Z h;cases ho;intro b cs cur ro h;obtain⟨l,h1,rfl,rfl,rfl⟩:=hcs b cs cur ro h;refine⟨λg l' q=>?_,λg hg=>⟨⟨b,0,0,0,false⟩,?_⟩,λc hc=>?_⟩;obtain⟨_,rfl,rfl⟩:=a2Z q;simp_all;unfold a6a;rw[vG ⟨(wM.1 h1).1,ou.1 hg⟩];grind;intro b cs cur ro g l h hk off v st hv hst hlo;obtain⟨l',h1,rfl,rfl,rfl⟩:=hcs b cs cur ro h;obtain⟨_,rfl,rfl⟩:=a2Z hk;rw[vW]at hv;cases q:l'[off]? with|none=>rw[q]at hv;cases hv|some x=>rw[q]at hv;cases hv;refine⟨v,?_,.plain (hp l' (vT h1) v (vT q))⟩;show w.cell? ⟨b,0+(off-0),none⟩=some v;rw[vY,ql];exact hL.cell b l' h1 off v q
 grind[a0K];grind[a0K]
theorem b2m (h:T.ng<=vs.length):GK T (a6a vs):=λg hg=>⟨⟨g,0,0,0,false⟩,by unfold a6a;rw[vG ⟨zy,rfl⟩],rfl,rfl,rfl⟩
def a2M (P:Program)(T:Tab)(vs:a2Q)(ext:Nat->Option (List Value->M Value)):Prop:=∀B0 w0,LaidV vs w0.w->vs.length<=B0->c0m P T B0 w0 ext
theorem c3O:a2M P T vs (λ_=>none):=λ_ _ _ _=>⟨λ_ _ h=>zg,λ_ _ h=>zg⟩
def a7g (P:Program)(vs:a2Q)(f:Nat)(args:List Value)(v:Value):Prop:=∀w,LaidV vs w->(callFunc f args.toArray).run P w=.ok (.enter f args.toArray) w/\Calls P f args.toArray w λe w'=>e=.returned v/\Below w.heap.size w w'
theorem V5 {f:Nat}{fn c args}(hPf:P.funcs[f]?=some fn)(hnum:(fn.name== "runtime.NumGoroutine")=false)(hb:fn.body=some c):(callFunc f args).run P w=.ok (.enter f args) w:=by simp_all[callFunc]
theorem b3j {K l}(h:J7 (K5 8) l=true):VRL K l l:=⟨rfl,λi v' v h1 h2=>by rw[h1]at h2;cases h2;exact a0V 8 _ ((M5 _ _).1 h _ (vT h1))⟩
theorem c3F (hT:TabOk P T)(hM:P.follows .mixedOrders=true)(hng:T.ng<=vs.length)(hp:∀l∈vs,∀v∈l,plain v=true){ext}(hE:a2M P T vs ext){n f}{fn}{c}{args}{v}{s'}(hPf:P.funcs[f]?=some fn)(hnum:(fn.name== "runtime.NumGoroutine")=false)(hb:fn.body=some c)(ha:J7 (K5 8) args=true)(hv:K5 8 v=true)(h:a7o P T ext n f args (a3p vs)=some (v,s')):a7g P vs f args v:=by intro w hL;have hE':=hE w.heap.size ⟨w,λ_=>True⟩ hL hL.size;refine⟨V5 hPf hnum hb,?_⟩;rcases b3p hT hM hE' n f args (a3p vs) v s' w (a6a vs) args h (b1b (λ_ _=>trivial) (λ_ _=>trivial) hL hp) (b2m hng) (λi hi _=>by rw[a0K];have:vs.length<=i:=yC;rw[vg this]) (b3j ha)with⟨v',w',K',q1,_⟩|⟨_,q⟩;rw[V5 hPf hnum hb]at q1;cases q1;refine q.mono λe w' ⟨v',K',e1,st,r⟩=>?_;rw[e1,r.eq_of_noAddr 8 hv];exact⟨rfl,st.sim.below⟩
def b0C (ext:Nat->Option (List Value->M Value))(f:Nat)(tab:List Value->Option Value):Nat->Option (List Value->M Value):=λg=>match Nat.beq g f with|true=>some λargs=>M.lift (tab args)|false=>ext g
theorem a9X {ext}(hE:a2M P T vs ext){f tab}(ht:∀args v,tab args=some v->J7 (K5 8) args=true/\K5 8 v=true/\a7g P vs f args v):a2M P T vs (b0C ext f tab):=by
 intro B0 w0 hL hB;have h0:=hE B0 w0 hL hB;constructor;intro g m hm aS9;unfold b0C at hm;cases hb:Nat.beq g f with|true=>rw[hb]at hm;grind[Fr.lift]|false=>rw[hb]at hm;exact h0.1 g m hm aS9
 intro g m hm aS9 s v s' w K vs' h S hg F hvs;unfold b0C at hm;cases hb:Nat.beq g f with
  |true=>
   rw[hb]at hm;cases hm;obtain rfl:=wK hb;right;obtain⟨e1,e2⟩:=a3s h;obtain⟨t1,t2,t3⟩:=ht aS9 v e1;have hvv:vs'=aS9:=by
    apply ui;intro i;by_cases hi:i<aS9.length;have hi':i<vs'.length:=by rw[hvs.len];exact hi
    have r:=hvs.at_ i _ _ (wO hi') (wO hi);rw[wO hi',wO hi,r.eq_of_noAddr 8 ((M5 _ _).1 t1 aS9[i] (uO hi))];rw[vg (by rw[hvs.len];omega),vg zy]
   rw[hvv];obtain⟨c1,c2⟩:=t3 w (hL.below S.below hB);refine⟨c1,c2.mono λe w' ⟨q1,q2⟩=>⟨v,K,q1,⟨KM.le_refl K,λ_ _ _=>rfl,?_⟩,a0V 8 v t2⟩⟩;subst e2;exact a6k S ⟨q2.os,q2.tape,q2.output,q2.size,q2.block⟩|false=>rw[hb]at hm;exact h0.2 g m hm aS9 s v s' w K vs' h S hg F hvs
end
end Go.V
end
section
namespace Go.V
open Go.RowKit (Below)
section
variable {P:Program}{T:Tab}{w:World}{vs:a2Q}
theorem a5D (hT:TabOk P T)(hM:P.follows .mixedOrders=true)(hng:T.ng<=vs.length)(hp:∀l∈vs,∀v∈l,plain v=true){ext}(hE:a2M P T vs ext){N}{sh}(hs:a7S P T ext N sh){n f}{fn}{c}{args}{v}{s'}(hPf:P.funcs[f]?=some fn)(hnum:(fn.name== "runtime.NumGoroutine")=false)(hb:fn.body=some c)(ha:J7 (K5 8) args=true)(hv:K5 8 v=true)(h:o9 sh n f args (a3p vs)=some (.ret v,s')):a7g P vs f args v:=by intro w hL;have hE':=hE w.heap.size ⟨w,λ_=>True⟩ hL hL.size;refine⟨V5 hPf hnum hb,?_⟩;rcases b0U hT hM hE' hs n f args (a3p vs) (.ret v) s' w (a6a vs) args h (b1b (λ_ _=>trivial) (λ_ _=>trivial) hL hp) (b2m hng) (λi hi _=>by rw[a0K];have:vs.length<=i:=yC;rw[vg this]) (b3j ha)with⟨v1,v',w',K',_,q1,_⟩|⟨_,q⟩;rw[V5 hPf hnum hb]at q1;cases q1;refine q.mono λe w' hq=>?_;obtain⟨v',K',e1,st,r⟩:=hq;rw[e1,r.eq_of_noAddr 8 hv];exact⟨rfl,st.sim.below⟩
end
end Go.V
end
section
namespace Go.V
open Go.RowKit (Below)
inductive VRen (c:Nat→Prop) (m:Nat→Option (Nat×Nat)):Value→Value→Prop
 | plain {v:Value}:plain v=true→VRen c m v v
 | ptrOld {b off:Nat} {g:Option Nat}:c b→VRen c m (.pointer (some ⟨b,off,g⟩)) (.pointer (some ⟨b,off,g⟩))
 | ptrNew {b b2 g2 off:Nat}:m b=some (b2,g2)→VRen c m (.pointer (some ⟨b,off,some 0⟩)) (.pointer (some ⟨b2,off,some g2⟩))
 | sliceOld {b off n e:Nat} {g:Option Nat}:c b→VRen c m (.slice (some ⟨b,off,g⟩) n e) (.slice (some ⟨b,off,g⟩) n e)
 | sliceNew {b b2 g2 off n e:Nat}:m b=some (b2,g2)→VRen c m (.slice (some ⟨b,off,some 0⟩) n e) (.slice (some ⟨b2,off,some g2⟩) n e)
 | mapOld {b:Nat}:c b→VRen c m (.map (some b)) (.map (some b))
 | agg {cs ds:Array Value}:cs.toList.length=ds.toList.length→(∀ (i:Nat) (v w:Value),cs.toList[i]?=some v→ds.toList[i]?=some w→VRen c m v w)→VRen c m (.agg cs) (.agg ds)
 | tuple {cs ds:Array Value}:cs.toList.length=ds.toList.length→(∀ (i:Nat) (v w:Value),cs.toList[i]?=some v→ds.toList[i]?=some w→VRen c m v w)→VRen c m (.tuple cs) (.tuple ds)
 | func {fn:Fn} {cs ds es fs:Array Value}:cs.toList.length=ds.toList.length→(∀ (i:Nat) (v w:Value),cs.toList[i]?=some v→ds.toList[i]?=some w→VRen c m v w) →
  es.toList.length=fs.toList.length→(∀ (i:Nat) (v w:Value),es.toList[i]?=some v→fs.toList[i]?=some w→VRen c m v w)→VRen c m (.func fn cs es) (.func fn ds fs)
 | iface {t:TypeId} {v w:Value}:VRen c m v w→VRen c m (.iface t v) (.iface t w)
open Classical in noncomputable def KR (c:Nat->Prop)(m:Nat->Option (Nat×Nat))(K:KM):KM:=λb g=>if c b then K b g else match m b with|some x=>if g=0 then K x.1 x.2 else none|none=>none
theorem a6e {c m K b}(h:c b)(g):KR c m K b g=K b g:=by unfold KR;rw[vG h]
theorem c2W {c m K b b2 g2}(h:¬c b)(hm:m b=some (b2,g2)):KR c m K b 0=K b2 g2:=by simp_all[KR]
theorem b6b {c m K b g l}(h:KR c m K b g=some l):(c b/\K b g=some l)\/(¬c b/\g=0/\∃b2 g2,m b=some (b2,g2)/\K b2 g2=some l):=by unfold KR at h;grind
section
variable {c:Nat->Prop}{m:Nat->Option (Nat×Nat)}{K:KM}(hn:∀b x,m b=some x->¬c b)
include hn
theorem VR.ren {v1 v2}(r:VRen c m v1 v2):∀{v'},VR K v' v2->VR (KR c m K) v' v1:=by
 induction r with
  |plain hp=>intro v' q;rw[q.eq_of_plain hp];exact .plain hp| @ptrOld b off g hb=>intro v' q;generalize hz:Value.pointer (some ⟨b,off,g⟩)=z at q;cases q with|plain hp=>grind[V.plain]|ptr hk hl=>cases hz;exact .ptr (by rw[a6e hb];exact hk) hl|_=>cases hz
  | @ptrNew b b2 g2 off hm=>intro v' q;generalize hz:Value.pointer (some ⟨b2,off,some g2⟩)=z at q;cases q with|plain hp=>grind[V.plain]|ptr hk hl=>cases hz;exact .ptr (by rw[c2W (hn _ _ hm) hm];exact hk) hl|_=>cases hz
  | @sliceOld b off n e g hb=>intro v' q;generalize hz:Value.slice (some ⟨b,off,g⟩) n e=z at q;cases q with|plain hp=>grind[V.plain]|slice hk h1 h2 h3 h4 h5=>cases hz;exact .slice (by rw[a6e hb];exact hk) h1 h2 h3 h4 h5|_=>cases hz
  | @sliceNew b b2 g2 off n e hm=>intro v' q;generalize hz:Value.slice (some ⟨b2,off,some g2⟩) n e=z at q;cases q with|plain hp=>grind[V.plain]|slice hk h1 h2 h3 h4 h5=>cases hz;exact .slice (by rw[c2W (hn _ _ hm) hm];exact hk) h1 h2 h3 h4 h5|_=>cases hz
  | @mapOld b hb=>intro v' q;generalize hz:Value.map (some b)=z at q;cases q with|plain hp=>grind[V.plain]|map hk=>cases hz;exact .map (by rw[a6e hb];exact hk)|_=>cases hz
  | @agg cs ds hl _ ih=>
   intro v' q;generalize hz:Value.agg ds=z at q;cases q with
    |plain hp=>grind[V.plain]|agg h1 h2=>
     cases hz;refine .agg (h1.trans hl.symm) λi a b ha hb=>?_;have hi:i<ds.toList.length:=by rw[<-hl];grind
     grind|_=>cases hz
  | @tuple cs ds hl _ ih=>
   intro v' q;generalize hz:Value.tuple ds=z at q;cases q with
    |plain hp=>grind[V.plain]|tuple h1 h2=>
     cases hz;refine .tuple (h1.trans hl.symm) λi a b ha hb=>?_;have hi:i<ds.toList.length:=by rw[<-hl];grind
     grind|_=>cases hz
  | @func fn cs ds es fs hl _ hl' _ ih ih'=>
   intro v' q;generalize hz:Value.func fn ds fs=z at q;cases q with
    |plain hp=>grind[V.plain]|func h1 h2 h3 h4=>
     cases hz;refine .func (h1.trans hl.symm) (λi a b ha hb=>?_) (h3.trans hl'.symm) λi a b ha hb=>?_;have hi:i<ds.toList.length:=by rw[<-hl];grind
     grind;grind|_=>cases hz
  |iface _ ih=>intro v' q;rename_i t v w _;generalize hz:Value.iface t w=z at q;cases q with|plain hp=>grind[V.plain]|iface h=>cases hz;exact .iface (ih h)|_=>cases hz
end
inductive ORen (c:Nat→Prop) (m:Nat→Option (Nat×Nat)):Option VObj→Option VObj→Prop
 | none:ORen c m none none
 | cells {cs ds:List (Value×Nat)} {cur:Nat} {ro:Bool}:cs.length=ds.length→(∀ (i:Nat) v w st st',cs[i]?=some (v,st)→ds[i]?=some (w,st')→st=st'∧VRen c m v w)→ORen c m (some (.cells cs cur ro)) (some (.cells ds cur ro))
 | map {es fs:List (Value×Value)}:es.length=fs.length→(∀ (i:Nat) (e f:Value×Value),es[i]?=some e→fs[i]?=some f→e.1=f.1∧VRen c m e.2 f.2)→ORen c m (some (.map es)) (some (.map fs))
 | siter {s:ByteArray} {pos:Nat}:ORen c m (some (.siter s pos)) (some (.siter s pos))
structure View (c:Nat→Prop) (m:Nat→Option (Nat×Nat)) (h0 h1 h2:Trie VObj):Prop where
 old:∀ i,c i→ORen c m (h1.get i) (h2.get i)∨(h1.get i=h0.get i∧h2.get i=h0.get i)
 new:∀ b b2 g2,m b=some (b2,g2)→¬ c b∧¬ c b2∧∃ cs ds,h1.get b=some (.cells cs 0 false)∧h2.get b2=some (.cells ds g2 false)∧cs.length=ds.length ∧
  ∀ (i:Nat) v w st st',cs[i]?=some (v,st)→ds[i]?=some (w,st')→st=0∧VRen c m v w
 dom:∀ b, ¬ c b→m b=none→h1.get b=none
 inj:∀ b b' x x',m b=some x→m b'=some x'→x.1=x'.1→b=b'
theorem c9w {B0 w0 K K2 h h2 w w'}(S:Sim B0 w0 K h w)(S2:Sim B0 w0 K2 h2 w')(hle:K.le K2){i}(e:h2.get i=h.get i)(g):K2 i g=K i g:=by
 cases q:K2 i g with
  |none=>cases q1:K i g with|none=>rfl|some l=>rw[hle _ _ _ q1]at q;cases q
  |some l=>
   have key:∀l',K i g=some l'->some l=K i g:=λl' h'=>by rw[h',<-q,hle _ _ _ h']
   obtain⟨o,ho⟩:=S2.dom2 i g l q;have ho':h.get i=some o:=by rw[<-e];exact ho
   cases o with
    |cells cs cur ro=>obtain⟨l',hl'⟩:=(S.gens i cs cur ro ho').2.1 g ((S2.gens i cs cur ro ho).1 g l q).1;simp_all|map es=>
     obtain rfl:=S2.gen0 i g l q λcs cur ro h=>by rw[ho]at h;cases h
     obtain⟨l',_,_,hl',_⟩:=S.map i es ho';simp_all|siter x pos=>
     obtain rfl:=S2.gen0 i g l q λcs cur ro h=>by rw[ho]at h;cases h
     obtain⟨l',hl',_⟩:=S.siter i x pos ho';simp_all
theorem b9v {c m K}(hK:∀b g l,K b g=some l->c b){v' v}(r:VR K v' v):VRen c m v v:=by induction r with|plain h=>exact .plain h|ptr hk _=>exact .ptrOld (hK _ _ _ hk)|slice hk _ _ _ _ _=>exact .sliceOld (hK _ _ _ hk)|map hk=>exact .mapOld (hK _ _ _ hk)|agg hl _ ih=>refine .agg rfl λi v w h h'=>?_;rw[h]at h';grind|tuple hl _ ih=>refine .tuple rfl λi v w h h'=>?_;rw[h]at h';grind|func hl _ hl' _ ih ih'=>refine .func rfl (λi v w h h'=>?_) rfl λi v w h h'=>?_;rw[h]at h';grind;grind|iface _ ih=>exact .iface ih
theorem e1M {c m h0 h1 h2 B0 w0 K0 K wS w}(V:View c m h0 h1 h2)(S0:Sim B0 w0 K0 h0 wS)(hle:K0.le K)(hO:∀b o,h0.get b=some o->c b)(S:Sim B0 w0 K h2 w):Sim B0 w0 (KR c m K) h1 w:=by
 have hn:∀b x,m b=some x->¬c b:=λb x e=>(V.new b x.1 x.2 e).1;have hK0:∀b g l,K0 b g=some l->c b:=λb g l q=>let⟨o,ho⟩:=S0.dom2 b g l q;hO b o ho;have src:∀b g l,KR c m K b g=some l->∃b2 g2,K b2 g2=some l/\((c b/\b2=b/\g2=g)\/(¬c b/\g=0/\m b=some (b2,g2))):=by intro b g l h;rcases b6b h with⟨q1,q2⟩|⟨q1,q2,b2,g2,q3,q4⟩;simp_all;simp_all
 have cellsOf:∀b cs cur ro,h1.get b=some (.cells cs cur ro)->(c b/\∃ds,h2.get b=some (.cells ds cur ro)/\cs.length=ds.length/\∀(i:Nat) v u st st',cs[i]?=some (v,st)->ds[i]?=some (u,st')->st=st'/\(VRen c m v u\/(v=u/\h0.get b=some (.cells cs cur ro)/\h2.get b=h0.get b)))\/(¬c b/\cur=0/\ro=false/\∃b2 g2 ds,m b=some (b2,g2)/\h2.get b2=some (.cells ds g2 false)/\cs.length=ds.length/\∀(i:Nat) v u st st',cs[i]?=some (v,st)->ds[i]?=some (u,st')->st=0/\VRen c m v u):=by intro b cs cur ro h;by_cases hb:c b;rcases V.old b hb with this|⟨z1,z2⟩;rw[h]at this;generalize hz:h2.get b=z at this;cases this<;>grind;simp_all;cases hm:m b with|none=>rw[V.dom b hb hm]at h;cases h|some x=>obtain⟨_,_,cs',ds,e1,e2,e3,e4⟩:=V.new b x.1 x.2 hm;rw[e1]at h;grind
 refine⟨S.size0,S.below,?_,?_,?_,?_,?_,?_,?_,?_,?_,?_,λb g l h hnc=>?_⟩;intro b g l h;obtain⟨b2,g2,q,_⟩:=src b g l h;exact S.dom' b2 g2 l q;intro b g l h;obtain⟨b2,g2,q,hor⟩:=src b g l h;rcases hor with⟨hb,rfl,rfl⟩|⟨hb,_,hm⟩;obtain⟨o,ho⟩:=S.dom2 b2 g2 l q;rcases V.old b2 hb with this|⟨z1,z2⟩;rw[ho]at this;generalize hz:h1.get b2=z at this;cases this<;>exact⟨_,rfl⟩;simp_all;obtain⟨_,_,cs,ds,e1,_⟩:=V.new b b2 g2 hm;grind;intro b g l h ho;obtain⟨b2,g2,q,_⟩:=src b g l h;exact S.own b2 g2 l q ho;intro b g l b' g' l' h h' hne ho;obtain⟨b2,g2,q,hor⟩:=src b g l h;obtain⟨b3,g3,q',hor'⟩:=src b' g' l' h';refine S.apart b2 g2 l b3 g3 l' q q' ?_ ho;rcases hor with⟨hb,rfl,rfl⟩|⟨hb,_,hm⟩<;>rcases hor' with⟨hb',rfl,rfl⟩|⟨hb',_,hm'⟩;exact hne;exactλe=>(V.new _ _ _ hm').2.1 (e▸hb);exactλe=>(V.new _ _ _ hm).2.1 (e▸hb');exactλe=>hne (V.inj _ _ _ _ hm hm' e);intro b g l g' l' h h';obtain⟨b2,g2,q,hor⟩:=src b g l h;obtain⟨b3,g3,q',hor'⟩:=src b g' l' h';have e:b3=b2:=by rcases hor with⟨hb,e1,_⟩|⟨hb,_,hm⟩<;>rcases hor' with⟨hb',e1',_⟩|⟨hb',_,hm'⟩;omega;simp_all;simp_all;simp_all
 subst e;exact S.same b3 g2 l g3 l' q q';intro b g l cs cur ro h ho hc;obtain⟨b2,g2,q,hor⟩:=src b g l h;rcases cellsOf b cs cur ro hc with⟨hb,ds,e1,_⟩|⟨hb,_,_,b3,g3,ds,hm,e1,_⟩;rcases hor with⟨_,rfl,rfl⟩|⟨hb',_,_⟩;exact S.room b2 g2 l ds cur ro q ho e1;grind;rcases hor with⟨hb',_,_⟩|⟨_,_,hm'⟩;grind;rw[hm]at hm';cases hm';exact S.room b2 g2 l ds g2 false q ho e1;intro b cs cur ro hc;rcases cellsOf b cs cur ro hc with⟨hb,ds,e1,e2,e3⟩|⟨hb,rfl,rfl,b3,g3,ds,hm,e1,e2,e3⟩;obtain⟨q1,q2,q3⟩:=S.gens b ds cur ro e1;grind[a6e,List.mem_iff_getElem?];obtain⟨q1,q2,q3⟩:=S.gens b3 ds g3 false e1;refine⟨λg l' h=>?_,λg hg=>let⟨l,r⟩:=q2 g3 (wP _);⟨l,by rw[ou.1 hg,c2W hb hm];exact r⟩,λx hx=>?_⟩;grind;grind[List.mem_iff_getElem?];intro b cs cur ro g l hc hk off v st hv hst hlo;rcases cellsOf b cs cur ro hc with⟨hb,ds,e1,e2,e3⟩|⟨hb,rfl,rfl,b3,g3,ds,hm,e1,e2,e3⟩;rw[a6e hb]at hk;have hlt:off<ds.length:=by rw[<-e2];grind
 obtain⟨f1,f2⟩:=e3 off v _ st _ hv (wO hlt);obtain⟨v',r1,r2⟩:=S.cells b ds cur ro g l e1 hk off _ _ (wO hlt) (by rw[<-f1];exact hst) hlo;rcases f2 with f2|⟨e,z1,z2⟩;grind[VR.ren];have hk0:K0 b g=some l:=by rw[<-c9w S0 S hle z2 g];exact hk
 obtain⟨v0,_,q⟩:=S0.cells b cs cur ro g l z1 hk0 off v st hv hst hlo;rw[<-e]at r2;grind[VR.ren,b9v];rcases b6b hk with⟨hb',_⟩|⟨_,rfl,b4,g4,hm',hk'⟩;grind;rw[hm]at hm';cases hm';have hlt:off<ds.length:=by rw[<-e2];grind
 obtain⟨f1,f2⟩:=e3 off v _ st _ hv (wO hlt);obtain⟨v',r1,r2⟩:=S.cells b3 ds g3 false g3 l e1 hk' off _ _ (wO hlt) ((S.gens b3 ds g3 false e1).2.2 _ (uO hlt)) hlo;grind[VR.ren];·
  intro b es hc;have hb:c b:=yM;rcases V.old b hb with this|⟨z1,z2⟩;rotate_left;rw[z1]at hc;have hc2:h2.get b=some (.map es):=by rw[z2];exact hc
  obtain⟨l,es',clock,r1,r2,r3,r4⟩:=S.map b es hc2;obtain⟨_,es0,_,_,_,_,t4⟩:=S0.map b es hc;refine⟨l,es',clock,by rw[a6e hb];exact r1,r2,r3,⟨r4.len,λi e' e he' he=>?_⟩⟩;have hlt:i<es0.toList.length:=by rw[t4.len];grind
  obtain⟨k1,k2⟩:=r4.key i e' e he' he;exact⟨k1,VR.ren hn (b9v hK0 (t4.key i _ e (wO hlt) he).2) k2⟩;rw[hc]at this;generalize hz:h2.get b=z at this;cases this with
   | @map _ fs q1 q2=>
    obtain⟨l,es',clock,r1,r2,r3,r4⟩:=S.map b fs hz;refine⟨l,es',clock,by rw[a6e hb];exact r1,r2,r3,⟨by rw[r4.len,q1],λi e' e he' he=>?_⟩⟩;have hlt:i<fs.length:=by rw[<-q1];grind
    obtain⟨k1,k2⟩:=r4.key i e' _ he' (wO hlt);grind[VR.ren]
 ·intro b s pos hc;have hb:c b:=yM;rcases V.old b hb with this|⟨z1,z2⟩;rotate_left;rw[z1,<-z2]at hc;obtain⟨l,r1,r2⟩:=S.siter b s pos hc;grind[a6e];rw[hc]at this;generalize hz:h2.get b=z at this;cases this with|siter=>obtain⟨l,r1,r2⟩:=S.siter b s pos hz;grind[a6e]
 rcases b6b h with⟨hb,q⟩|⟨_,e,_⟩;refine S.gen0 b g l q λcs cur ro e=>?_;rcases V.old b hb with this|⟨z1,z2⟩;rw[e]at this;generalize hz:h1.get b=z at this;cases this<;>grind;simp_all;exact e
end Go.V
end
noncomputable section
namespace Go.V
def Trie.items {α:Type}(t:Trie α):List (Nat×α):=Trie.rec (motive:=λ_=>List (Nat×α)) [] (λv _ _ l r=>E5 (match v with|some v=>[(0,v)]|none=>[]) (E5 (K4 (λx=>(2*x.1+1,x.2)) l) (K4 (λx=>(2*x.1+2,x.2)) r))) t
theorem Trie.mem_items {α}{t:Trie α}:∀{k} {v},t.get k=some v->(k,v)∈t.items:=by induction t with|leaf=>grind[Trie.get_leaf]|node o l r ihl ihr=>intro k v h;show(k,v)∈E5 (match o with|some v=>[(0,v)]|none=>[]) (E5 (K4 (λx=>(2*x.1+1,x.2)) l.items) (K4 (λx=>(2*x.1+2,x.2)) r.items));simp only[E9,a0N,uf,uQ];cases k with|zero=>rw[Trie.get_node_zero]at h;simp_all|succ k=>right;rw[Trie.get_node_succ]at h;grind
theorem d2x {P T}(h1:T.types.items.map (λx=>(P.info? x.1).map λi=>(i.size,i.bytes,i.zero))=T.types.items.map (λx=>some (x.2.size,x.2.bytes,some x.2.zero)))(h2:T.types.items.map (λx=>P.underlying x.1)=T.types.items.map (λx=>some x.2.und))(h3:(T.types.items.all λx=>x.2.zero.cells.size==x.2.size)=true)(h4:T.funcs.items.map (λx=>(P.funcs[x.1]?,x.2.name== "runtime.NumGoroutine"))=T.funcs.items.map (λx=>(some x.2,false))):TabOk P T:=by have inj:∀{α β:Type} {f g:α->β} {l:List α},l.map f=l.map g->∀x∈l,f x=g x:=λh x hx=>zn;constructor;intro t i h;have hm:=Trie.mem_items h;have e1:=inj h1 _ hm;have e2:=inj h2 _ hm;have e3:=rE.1 h3 _ hm;dsimp only at e1 e2 e3;cases hi:P.info? t<;>grind;intro f fn h;have e:=inj h4 _ (Trie.mem_items h);grind
end Go.V
end
noncomputable section
namespace Go.V
open Go.RowKit (Below)
def b4I {β:Type}(t:Trie VObj):(Trie VObj->Option β)->Option β:=Trie.rec (motive:=λ_=>(Trie VObj->Option β)->Option β) (λq=>q .leaf) (λv _ _ ihl ihr q=>ihl λl=>ihr λr=>match v with|none=>q (.node none l r)|some o=>match o with|.cells cs cur _=>q (.node (some (.cells cs cur true)) l r)|_=>none) t
def b6v (h h':Trie VObj):Prop:=∀i,(h.get i=none/\h'.get i=none)\/∃cs cur ro,h.get i=some (.cells cs cur ro)/\h'.get i=some (.cells cs cur true)
theorem c1T {β}(t):∀(q:Trie VObj->Option β) (x),b4I t q=some x->∃t',b6v t t'/\q t'=some x:=by
 induction t with
  |leaf=>intro q x h;exact⟨.leaf,λi=>Or.inl ⟨Trie.get_leaf i,Trie.get_leaf i⟩,h⟩|node v l r ihl ihr=>
   intro q x h;have h':b4I l (λl=>b4I r λr=>match v with|none=>q (.node none l r)|some o=>match o with|.cells cs cur _=>q (.node (some (.cells cs cur true)) l r)|_=>none)=some x:=h;obtain⟨l',hl,h1⟩:=ihl _ _ h';obtain⟨r',hr,h2⟩:=ihr _ _ h1;have key:∀(v':Option VObj),((v=none/\v'=none)\/∃cs cur ro,v=some (.cells cs cur ro)/\v'=some (.cells cs cur true))->b6v (.node v l r) (.node v' l' r'):=by intro v' hv i;cases i with|zero=>rw[Trie.get_node_zero,Trie.get_node_zero];exact hv|succ k=>rw[Trie.get_node_succ,Trie.get_node_succ];by_cases hk:k%2=0;rw[vG hk,vG hk];exact hl _;rw[vN hk,vN hk];exact hr _
   grind
def c5q:M Unit:=λs=>b4I s.h λh=>some ((),⟨s.c,h,[],[]⟩)
theorem c3S {s s' u}(h:c5q s=some (u,s')):s'.c=s.c/\b6v s.h s'.h:=by obtain⟨t',h1,h2⟩:=c1T _ _ _ h;grind
def b0o (K:KM):KM:=λb g=>(K b g).map λl=>{l with own:=false}
theorem a4K {K b g l}(h:b0o K b g=some l):∃l0,K b g=some l0/\l={l0 with own:=false}:=by unfold b0o at h;cases q:K b g<;>simp_all
theorem a9q {K b g l}(h:K b g=some l):b0o K b g=some {l with own:=false}:=by grind[b0o]
theorem VR.frz {K v' v}(r:VR K v' v):VR (b0o K) v' v:=by induction r with|plain h=>exact .plain h| @ptr b g off l hk hl=>exact VR.ptr (l:={l with own:=false}) (a9q hk) hl|slice hk h1 h2 h3 h4 h5=>refine VR.slice (a9q hk) h1 h2 h3 h4 ?_;grind| @map b l hk=>exact VR.map (l:={l with own:=false}) (a9q hk)|agg h1 _ ih=>exact .agg h1 ih|tuple h1 _ ih=>exact .tuple h1 ih|func h1 _ h3 _ ih1 ih2=>exact .func h1 ih1 h3 ih2|iface _ ih=>exact .iface ih
theorem VRL.frz {K l' l}(h:VRL K l' l):VRL (b0o K) l' l:=⟨h.len,λi v' v a b=>(h.at_ i v' v a b).frz⟩
theorem GK.frz {T K}(h:GK T K):GK T (b0o K):=λg hg=>let⟨_,e,r1,r2,r3⟩:=h g hg;⟨_,a9q e,r1,r2,r3⟩
structure KeepsR (R:Nat→Prop) (w w':World):Prop where
 size:w.heap.size≤w'.heap.size
 same:∀ k o,R k→w.heap[k]?=some o→o.isCells=true∨o.isWalk=true→w'.heap[k]?=some o
theorem c6x {B0 w0 K h h' w w'}(S:Sim B0 w0 K h w)(F:b6v h h')(Kp:KeepsR w0.R w w'):Sim w'.heap.size ⟨w',w0.R⟩ (b0o K) h' w':=by
 have hB:=vR S.base Kp.size;have hcs:∀b cs cur ro,h'.get b=some (.cells cs cur ro)->ro=true/\∃ro0,h.get b=some (.cells cs cur ro0):=by intro b cs cur ro q;rcases F b with⟨_,e⟩|⟨cs0,cur0,ro0,e1,e2⟩;rw[e]at q;cases q;simp_all
 refine⟨⟨wP _,λk hk=>S.size0.2 k (vR hB hk)⟩,rZ _ _,?_,?_,?_,?_,?_,?_,?_,?_,?_,?_,λb g l q hnc=>by obtain⟨l0,q0,rfl⟩:=a4K q;refine S.gen0 b g l0 q0 λcs cur ro e=>?_;rcases F b with⟨e',_⟩|⟨cs0,cur0,ro0,e1,e2⟩;rw[e']at e;cases e;simp_all⟩;intro b g l q;obtain⟨l0,q0,rfl⟩:=a4K q;exact⟨wD (S.dom b g l0 q0) Kp.size,(S.dom' b g l0 q0).2⟩;intro b g l q;obtain⟨l0,q0,rfl⟩:=a4K q;obtain⟨o,ho⟩:=S.dom2 b g l0 q0;rcases F b with⟨e,_⟩|⟨cs0,cur0,ro0,e1,e2⟩;rw[e]at ho;cases ho;simp_all;intro b g l q ho;obtain⟨l0,q0,rfl⟩:=a4K q;cases ho;intro b g l b' g' l' q _ _ ho;obtain⟨l0,q0,rfl⟩:=a4K q;cases ho;intro b g l g' l' q q';obtain⟨l0,q0,rfl⟩:=a4K q;obtain⟨l1,q1,rfl⟩:=a4K q';exact⟨rfl,(S.same b g l0 g' l1 q0 q1).2⟩;intro b g l cs cur ro q ho;obtain⟨l0,q0,rfl⟩:=a4K q;cases ho;intro b cs cur ro q;obtain⟨rfl,ro0,q0⟩:=hcs b cs cur ro q;obtain⟨r1,r2,r3⟩:=S.gens b cs cur ro0 q0;refine⟨λg l q=>?_,λg hg=>let⟨_,r⟩:=r2 g hg;⟨_,a9q r⟩,r3⟩;obtain⟨l0,q0,rfl⟩:=a4K q;simp_all;intro b cs cur ro g l q1 q2 off v st q3 q4 q5;obtain⟨rfl,ro0,q0⟩:=hcs b cs cur ro q1;obtain⟨l0,q2',rfl⟩:=a4K q2;obtain⟨v',r1,r2⟩:=S.cells b cs cur ro0 g l0 q0 q2' off v st q3 q4 q5;refine⟨v',?_,r2.frz⟩;obtain⟨o,ho,hc⟩:∃o:Obj,w.heap[l0.blk]?=some o/\o.isCells=true:=by unfold World.cell? at r1;cases hx:w.heap[l0.blk]? with|none=>grind|some o=>cases o with|cells=>exact⟨_,rfl,rfl⟩|_=>simp[hx]at r1
 rw[<-r1];exact tC (w:=w) (by dsimp only;rw[Kp.same _ _ (S.dom' b g l0 q2').2 ho (Or.inl hc),ho]);intro b es q;rcases F b with⟨_,e⟩|⟨cs0,cur0,ro0,e1,e2⟩;rw[e]at q;cases q;simp_all;intro b x pos q;rcases F b with⟨_,e⟩|⟨cs0,cur0,ro0,e1,e2⟩;rw[e]at q;cases q;simp_all
end Go.V
end
noncomputable section
namespace Go.V
open Go.RowKit (Below)
abbrev Log:=List (Nat×List Value)
structure YPat where
 ops:Array Oper
 n:Nat
 y:Oper
 c:Call
 z:Oper
 ty:Nat
 tz:Nat
def c0e:Op->Option Nat
 |.unOp op _ x=>match op with
  |.not=>match x with|.tmp t=>some t|_=>none
  |_=>none
 |_=>none
def b9Z (n:Nat):Option Nat->Bool|some m=>Nat.beq m n|none=>false
def c6r (ops:Array Oper)(tz:Nat):Option YPat:=match a0k ops.toList (z8 ops.toList-2)with|none=>none|some y=>match a0k ops.toList (z8 ops.toList-1)with|none=>none|some z=>match b1v y.op with|none=>none|some c=>match y.dst with|none=>none|some ty=>match b9Z ty (c0e z.op)&&b9Z tz z.dst&&y.guard.isNone&&z.guard.isNone&& !(Nat.beq ty tz)&&Nat.ble 2 (z8 ops.toList)with|true=>some ⟨ops,z8 ops.toList-2,y,c,z,ty,tz⟩|false=>none
def d4q:Code->Bool|.ret=>true|_=>false
def d1t:Code->Bool|.skip=>true|_=>false
def b0N (a b:Code):Option YPat:=match a with
 |.region _ ops draw=>match draw with
  |true=>none|false=>match b with
   |.cond x thn els=>match d4q thn&&d1t els with
    |true=>match x with|.tmp tz=>c6r ops tz|_=>none
    |false=>none
   |_=>none
 |_=>none
def b8C (T:Tab)(fr:List Value)(c:Call):Option (Nat×List Value):=match c.callee with
 |.value f=>match X5 T fr f with
  |some v=>match v with
   |.func fn first cap=>match fn with
    |.yield l=>match first.toList with
     |[]=>match cap.toList with
      |[]=>match a0R T fr c.args.toList with|some vs=>some (l,vs)|none=>none
      |_::_=>none
     |_::_=>none
    |_=>none
   |_=>none
  |none=>none
 |_=>none
section
variable (P:Program)(T:Tab)
def b0T (call:Nat->List Value->M Value)(p:YPat)(fr:List Value)(log:Log):M (Ex×(List Value×Log)):=M.bind (a6d P T call p.ops.toList (a0B p.ops.toList p.n) fr) λfr1=>M.obind (b8C T fr1 p.c) λlv=>M.guard (J7 (K5 8) lv.2&&Nat.blt p.ty (z8 fr1)&&Nat.blt p.tz (z8 fr1))<|M.bind c5q λ_=>fList (E5 log [lv]) λlog'=>M.pure (.normal,(a4W (a4W fr1 p.ty (.bool true)) p.tz (.bool false),log'))
def b7f (call:Nat->List Value->M Value)(ih:Code->List Value->Log->M (Ex×(List Value×Log)))(c:Code)(fr:List Value)(log:Log):M (Ex×(List Value×Log)):=match c with
 |.skip=>M.pure (.normal,(fr,log))|.region _ ops draw=>M.bind (region P T call ops.toList draw fr) λr=>M.pure (r.1,(r.2,log))|.seq a b=>match b0N a b with|some p=>b0T P T call p fr log|none=>M.bind (ih a fr log) λr=>match r.1 with|.normal=>ih b r.2.1 r.2.2|.exit id=>M.pure (.exit id,r.2)|.ret=>M.pure (.ret,r.2)
 |.cond x a b=>M.obind (X5 T fr x) λv=>match v with
  |.bool t=>match t with|true=>ih a fr log|false=>ih b fr log
  |_=>M.fail
 |.block id b=>M.bind (ih b fr log) λr=>match r.1 with
  |.normal=>M.pure (.normal,r.2)|.exit id'=>match Nat.beq id' id with|true=>M.pure (.normal,r.2)|false=>M.pure (.exit id',r.2)
  |.ret=>M.pure (.ret,r.2)
 |.loop b=>fList fr λfr=>M.bind (ih b fr log) λr=>match r.1 with|.normal=>ih (.loop b) r.2.1 r.2.2|.exit id=>M.pure (.exit id,r.2)|.ret=>M.pure (.ret,r.2)
 |.exit id=>M.pure (.exit id,(fr,log))|.ret=>M.pure (.ret,(fr,log))|_=>M.fail
def a3z (call:Nat->List Value->M Value)(n:Nat):Code->List Value->Log->M (Ex×(List Value×Log)):=Nat.rec (motive:=λ_=>Code->List Value->Log->M (Ex×(List Value×Log))) (λ_ _ _=>M.fail) (λ_ ih=>b7f P T call ih) n
end
theorem c9L {ops tz p}(h:c6r ops tz=some p):p.ops=ops/\p.tz=tz/\ops[p.n]?=some p.y/\ops[p.n+1]?=some p.z/\p.n+2=ops.size/\p.y.op=.call p.c/\p.y.guard=none/\p.z.guard=none/\p.y.dst=some p.ty/\p.z.dst=some p.tz/\(∃t,p.z.op=.unOp .not t (.tmp p.ty))/\p.ty≠p.tz:=by
 unfold c6r at h;cases hy:a0k ops.toList (z8 ops.toList-2)with
  |none=>rw[hy]at h;cases h|some y=>
   rw[hy]at h;dsimp only at h;cases hz:a0k ops.toList (z8 ops.toList-1)with
    |none=>rw[hz]at h;cases h|some z=>
     rw[hz]at h;dsimp only at h;cases hc:b1v y.op with
      |none=>rw[hc]at h;cases h|some c=>
       rw[hc]at h;dsimp only at h;cases hd:y.dst with
        |none=>rw[hd]at h;cases h|some ty=>
         rw[hd]at h;dsimp only at h;cases hb:b9Z ty (c0e z.op)&&b9Z tz z.dst&&y.guard.isNone&&z.guard.isNone&& !(Nat.beq ty tz)&&Nat.ble 2 (z8 ops.toList)with
          |false=>rw[hb]at h;cases h|true=>
           rw[hb]at h;cases h;simp only[wI,sw]at hb;obtain⟨⟨⟨⟨⟨b1,b2⟩,b3⟩,b4⟩,b5⟩,b6⟩:=hb;rw[G8]at hy hz b6⊢;rw[a2T,a8q]at hy hz;simp only[uT]at hy hz b6⊢;have b6:2<=ops.size:=by simpa using b6
           refine⟨trivial,trivial,hy,by rw[show ops.size-2+1=ops.size-1 by omega];exact hz,zy,?_,by simpa using b3,by simpa using b4,hd,?_,?_,?_⟩;cases ho:y.op<;>rw[ho]at hc<;>first|(cases hc;rfl)|cases hc
           cases q:z.dst with|none=>rw[q]at b2;cases b2|some t=>rw[q]at b2;exact vw some (wK b2)
           cases q:c0e z.op with|none=>rw[q]at b1;cases b1|some t=>rw[q]at b1;obtain rfl:t=ty:=wK b1;unfold c0e at q;grind
           intro e;rw[e]at b5;simp at b5
theorem c6j {a b p}(h:b0N a b=some p):(∃id,a=.region id p.ops false)/\b=.cond (.tmp p.tz) .ret .skip/\p.ops[p.n]?=some p.y/\p.ops[p.n+1]?=some p.z/\p.n+2=p.ops.size/\p.y.op=.call p.c/\p.y.guard=none/\p.z.guard=none/\p.y.dst=some p.ty/\p.z.dst=some p.tz/\(∃t,p.z.op=.unOp .not t (.tmp p.ty))/\p.ty≠p.tz:=by
 cases a with
  |region id ops draw=>
   cases draw with
    |true=>cases h|false=>
     cases b with
      |cond x thn els=>
       unfold b0N at h;dsimp only at h;cases hb:d4q thn&&d1t els with
        |false=>rw[hb]at h;cases h|true=>
         rw[hb]at h;simp only[wI]at hb;have e1:thn=.ret:=by cases thn<;>first|rfl|cases hb.1
         have e2:els=.skip:=by cases els<;>first|rfl|cases hb.2
         cases x with|tmp tz=>have h:c6r ops tz=some p:=h;obtain⟨q1,q2,q3⟩:=c9L h;simp_all|_=>cases h
      |_=>cases h
  |_=>cases h
theorem c2R {T fr c l vs}(h:b8C T fr c=some (l,vs)):∃f,c.callee=.value f/\X5 T fr f=some (.func (.yield l) #[] #[])/\a0R T fr c.args.toList=some vs:=by unfold b8C at h;split at h;rename_i f hf;split at h;rename_i v hv;split at h;rename_i fn first cap;split at h;rename_i l';split at h;rename_i hfirst;split at h;rename_i hcap;split at h;simp_all;cases h;cases h;cases h;cases h;cases h;cases h;cases h
end Go.V
end
noncomputable section
namespace Go.V
open Go.RowKit (Below)
section
variable {P:Program}{T:Tab}{B0:Nat}{w0:Base}{w:World}{K:KM}{s s':S}{a:Act}{fr:List Value}{v:Value}{m:Nat}
def b2l (s:S):Prop:=∀i,s.c<=i->s.h.get i=none
theorem b2l.free (h:b2l s)(K s'):a0t K s s':=λi hi _=>h i hi
theorem b2l.next {α}{f:M α}{x}(h:b2l s)(hf:Fr f)(e:f s=some (x,s')):b2l s':=λi hi=>by obtain⟨dr,dw,_,_,e3,_,e5,_,e7,_⟩:=hf s x s' e;rw[e7 i (λq=>by have:=e5 i q;omega)];exact h i (vR e3 hi)
theorem d0A {o:Oper}{next Q}(h:o.wp P a w next Q):o.wpIn Fence.wide m P a w next Q:=by
 refine⟨λ_ _=>trivial,?_⟩;show o.uponIn Fence.wide m P a next Q ((o.semAt none a.eval).run P w);rw[ni];unfold Oper.wp at h;generalize(execOp a.eval o).run P w=r at h;have hd:Fence.wide.depth.isSome=true->1<=m:=λq=>ze;cases r with
  |ok x w'=>cases x with|value v=>exact h|skip=>exact h|defer d=>exact h|enter f args=>exact⟨hd,pq.2 h⟩|row r args=>exact⟨hd,λc cs _=>let⟨v,w',q,st⟩:=h c cs;⟨v,w',q,stepsIn_wide.2 st⟩⟩|_=>exact absurd h (λq=>q)
  |halt x w'=>cases x with|panic v=>exact h|_=>exact absurd h (λq=>q)
theorem c3M (hT:TabOk P T){call}(hC:a5c P T B0 w0 call)(hF:∀f vs,Fr (call f vs))(ops){Q rest}:∀(n k) (fr fr') (s s') (K) (a) (w),k+n<=ops.size->a6d P T call ops.toList ((ops.toList.drop k).take n) fr s=some (fr',s')->Sim B0 w0 K s.h w->a0t K s s'->VRL K a.tmps.toList fr->GK T K->(∀a' w' K',Step B0 w0 K s' w' K'->VRL K' a'.tmps.toList fr'->a'.defers=a.defers->wpOpsIn Fence.wide m P ops Q rest a' w')->wpOpsIn Fence.wide m P ops Q (List.range' k n++rest) a w:=by intro n;induction n with|zero=>intro k fr fr' s s' K a w hk h S F hf hg hq;rw[List.take_zero]at h;obtain⟨rfl,rfl⟩:=x8 h;exact hq a w K (Step.same S rfl) hf rfl|succ n ih=>intro k fr fr' s s' K a w hk h S F hf hg hq;have hlt:k<ops.size:=zy;have hd:ops.toList.drop k=ops[k]::ops.toList.drop (k+1):=xJ;rw[hd,List.take_succ_cons,b1k]at h;rw[qK,ut];simp only[wpOpsIn,sK hlt];rw[a9Q ops a.tmps hf];cases hw:a1Y ops.toList fr ops[k]with|true=>rw[hw]at h;simp only[qD]at h⊢;obtain⟨v,s1,h1,h2⟩:=D6 h;have hle2:=(Fr.runOps P T hF _ _ _).le h2;refine d0A (b0Y hT hC h1 S (F.left hle2) hf hg λv' w' K' st r=>?_);refine ih (k+1) _ fr' s1 s' K' _ w' zy h2 st.sim (F.right (Fr.stepOp P T hF _ _) h1) (a8C (hf.mono st.le) _ r) (hg.mono st.le) λa2 w2 K2 st2 r2 d2=>?_;exact hq a2 w2 K2 (st.trans st2 hle2) r2 (by rw[d2,a3d])|false=>rw[hw]at h;simp only[uo,tN]at h⊢;refine⟨λ_ _=>trivial,ih (k+1) _ fr' s s' K _ w zy h S F (a8C hf _ (VR.undef K)) hg λa2 w2 K2 st2 r2 d2=>?_⟩;grind[a3d]
structure Rounds (P:Program) (R:Nat→Prop) (l m:Nat) (J Jx:List (List Value)→World→Prop) (full:List (List Value)):Prop where
 abides:∀ pre W W',J pre W→Below W.heap.size W W'→J pre W'
 round:∀ pre x W1,J pre W1→pre ++ [x] <+: full→YieldAt Fence.wide m P l x.toArray W1 fun e W'=>
  (e=.returned (.bool true)∧J (pre ++ [x]) W'∧KeepsR R W1 W')∨(e=.returned (.bool false)∧Jx (pre ++ [x]) W')
def YAt (T:Tab)(vs:a2Q)(R:Nat->Prop)(J:List (List Value)->World->Prop)(ds:List Deferred)(log:Log)(fr:List Value)(s:S)(a:Act)(w:World):Prop:=∃B0 w0 K,Sim B0 w0 K s.h w/\w0.R=R/\B0=w0.w.heap.size/\J (log.map (·.2)) w0.w/\VRL K a.tmps.toList fr/\GK T K/\a.defers=ds/\b2l s/\LaidV vs w0.w/\vs.length<=B0
def e2H:Ex->Exit->Prop|.normal,e=>e=.normal|.exit id,e=>e=.exit id|.ret,e=>e=.ret
theorem d7u {z t}{ty:Nat}{b}(hz:z.op=.unOp .not t (.tmp ty))(he:a.eval (.tmp ty)=.bool b):(execOp a.eval z).run P w=.ok (.value (.bool (!b))) w:=by unfold execOp;rw[hz];simp only[he];rfl
theorem b5A {t v}(h:t<a.tmps.size):(a.put (some t) v).eval (.tmp t)=v:=by simp[Act.put,Act.eval,h]
theorem c3d {t:Option Nat}{v}:(a.put t v).tmps.size=a.tmps.size:=by cases t<;>simp[Act.put]
theorem LaidV.keeps {vs R w w'}(h:LaidV vs w)(hR:∀k,k<vs.length->R k)(hk:KeepsR R w w'):LaidV vs w':=⟨vR h.size hk.size,λg l hg off v hv=>by
 have hc:=h.cell g l hg off v hv;obtain⟨o,ho,hoc⟩:∃o:Obj,w.heap[g]?=some o/\o.isCells=true:=by unfold World.cell? at hc;cases hx:w.heap[g]? with|none=>grind|some o=>cases o with|cells=>exact⟨_,rfl,rfl⟩|_=>simp[hx]at hc
 rw[<-hc];exact tC (w:=w) (by dsimp only;rw[hk.same _ _ (hR g (wM.1 hg).1) ho (Or.inl hoc),ho]),λg l hg hl=>by obtain⟨t,fz,e⟩:=h.row g l hg hl;exact⟨t,fz,by rw[hk.same _ _ (hR g (wM.1 hg).1) e (Or.inl rfl)]⟩⟩
theorem b9y (hT:TabOk P T){call I5}(hC:∀B0 w0,LaidV I5 w0.w->I5.length<=B0->a5c P T B0 w0 call)(hF:∀f vs,Fr (call f vs)){R}{l m}{full}{J Jx}(hR:Rounds P R l m J Jx full)(hRv:∀k,k<I5.length->R k){x y}{p}(hp:b0N x y=some p){log log'}{ex}{fr'}{Q}{ds}(h:b0T P T call p fr log s=some ((ex,(fr',log')),s'))(hY:YAt T I5 R J ds log fr s a w)(hl:∀e∈log',e.1=l)(hN:log'.map (·.2)<+:full)(hq:∀e a' w',YAt T I5 R J ds log' fr' s' a' w'->e2H ex e->Q e a' w')(hx:∀a' w' pre,pre<+:log'.map (·.2)->Jx pre w'->a'.defers=ds->Q .ret a' w'):(Code.seq x y).wp P Q a w:=by
 obtain⟨⟨id,rfl⟩,rfl,p1,p2,p3,p4,p5,p6,p7,p8,⟨t,p9⟩,p10⟩:=c6j hp;obtain⟨B0,w0,K,S,hwR,hB0,hJ,hf,hg,hds,hfr,hL0,hLB⟩:=hY;obtain⟨fr1,s1,h1,h2⟩:=D6 h;obtain⟨⟨l',vs⟩,hyo,h3⟩:=H9 h2;obtain⟨hgd,h4⟩:=I4 h3;obtain⟨u,s2,h5,h6⟩:=D6 h4;rw[a9s,E9]at h6;obtain⟨e7,rfl⟩:=x8 h6;cases e7;simp only[wI]at hgd;obtain⟨⟨g1,g2⟩,g3⟩:=hgd;obtain⟨f,c1,c2,c3⟩:=c2R hyo;have hll:l'=l:=hl (l',vs) zq;subst hll;rw[G8]at g2 g3;have g2:p.ty<fr1.length:=by simpa using g2
 have g3:p.tz<fr1.length:=by simpa using g3
 obtain⟨fz1,fz2⟩:=c3S h5;have hfr1:b2l s1:=hfr.next (Fr.runOps P T hF _ _ _) h1;have hlen:log.map (·.2)++[vs]<+:full:=zo;refine wpIn_wide (n:=m+1).1 (wpIn_seq (wpIn_region ?_));have hrange:List.range p.ops.size=List.range' 0 p.n++[p.n,p.n+1]:=by rw[<-p3,pz,<-List.range'_append];simp[qK]
 rw[hrange];refine c3M hT (hC B0 w0 hL0 hLB) hF p.ops p.n 0 fr fr1 s s1 K a w zy (by rw[tX,<-a2w];exact h1) S (hfr.free _ _) hf hg λa1 w1 K1 st r1 d1=>?_;have hsz:a1.tmps.size=fr1.length:=by have:=r1.len;omega
 have ef:a1.eval f=.func (.yield l') #[] #[]:=by
  have r:=O3 r1 (hg.mono st.le) c2;obtain⟨x1,y1,e,q1,q2⟩:=b8l r;rw[e];have e1:x1=#[]:=by apply oH;have:=q1.len;simp_all
  have e2:y1=#[]:=by apply oH;have:=q2.len;simp_all
  rw[e1,e2]
 have ea:p.c.args.toList.map a1.eval=vs:=by
  have r:=a6j r1 (hg.mono st.le) c3;apply ui;intro i;by_cases hi:i<vs.length;have hi':i<(p.c.args.toList.map a1.eval).length:=by rw[r.len];exact hi
  have q:=r.at_ i _ _ (wO hi') (wO hi);rw[wO hi',wO hi,q.eq_of_noAddr 8 ((M5 _ _).1 g1 vs[i] (uO hi))];rw[vg (by rw[r.len];omega),vg zy]
 have hop:execOp a1.eval p.y=Instr.yield l' vs.toArray:=by unfold execOp;rw[p4];show(do let d<-resolve a1.eval p.c p.y.type;invoke d.target d.args)=_;unfold resolve;rw[c1];show(do let d<-Deferred.ofValue (a1.eval f) (p.c.args.map a1.eval);invoke d.target d.args)=_;rw[ef];show Instr.yield l' (#[]++p.c.args.map a1.eval)=_;congr 1;grind
 have hJ1:J (log.map (·.2)) w1:=hR.abides _ _ _ hJ (by rw[<-hB0];exact st.sim.below);obtain⟨fn,tmps,assign,body,hrun,hround⟩:=hR.round (log.map (·.2)) vs w1 hJ1 hlen;have hw:∀(o:Oper) (ts:Array Value),o.guard=none->Region.wanted o (yielded p.ops ts)=true:=λo ts h=>by grind[Region.wanted]
 simp only[wpOpsIn,p1,p2];rw[hw _ _ p5,vG rfl];refine⟨λ_ _=>trivial,?_⟩;show p.y.uponIn Fence.wide (m+1) P a1 _ _ ((p.y.semAt none a1.eval).run P w1);rw[ni,hop,hrun,Oper.uponIn_round];refine⟨λq=>ze,hround.mono λe w2 he=>?_⟩;have tail:∀(b:Bool) (w2:World) (Q':Exit->Act->World->Prop),Q' .normal ((a1.put (some p.ty) (.bool b)).put (some p.tz) (.bool (!b))) w2->(if Region.wanted p.z (yielded p.ops (a1.put p.y.dst (.bool b)).tmps)=true then p.z.wpIn Fence.wide (m+1) P (a1.put p.y.dst (.bool b)) w2 (λa w=>Q' .normal a w) Q' else(∀f,p.z.about P w2 (a1.put p.y.dst (.bool b)).eval=some f->Fence.wide.fn f)/\Q' .normal ((a1.put p.y.dst (.bool b)).put p.z.dst undef) w2):=by intro b w2 Q' hQ;rw[hw _ _ p6,vG rfl];refine⟨λ_ _=>trivial,?_⟩;grind[Fence.wide,Oper.semAt_none,d7u,b5A,Oper.uponIn_value]
 rcases he with⟨rfl,hJ2,hk⟩|⟨rfl,hJx⟩;have hL1:LaidV I5 w1:=hL0.below st.sim.below hLB;have hL2:LaidV I5 w2:=hL1.keeps hRv hk;refine tail true w2 _ ?_;show((Code.cond (.tmp p.tz) .ret .skip).wpIn Fence.wide (m+1) P Q) _ w2;refine wpIn_cond_false (b5A (by rw[c3d];omega)) (wpIn_skip (hq _ _ _ ⟨w2.heap.size,⟨w2,R⟩,b0o K1,?_,rfl,rfl,?_,?_,?_,?_,?_,hL2,hL2.size⟩ rfl));have:=c6x st.sim fz2 (by rw[hwR];exact hk);rw[hwR]at this;exact this;grind;have q1:=(r1.frz.lset p.ty (VR.plain (K:=b0o K1) (v:=.bool true) rfl)).lset p.tz (VR.plain (K:=b0o K1) (v:=.bool false) rfl);grind[Act.put];exact(hg.mono st.le).frz;rw[a3d,a3d,d1,hds];intro i hi;rw[fz1]at hi;rcases fz2 i with⟨_,e⟩|⟨cs,cur,ro,e,_⟩;exact e;rw[hfr1 i hi]at e;cases e;refine tail false w2 _ ?_;show((Code.cond (.tmp p.tz) .ret .skip).wpIn Fence.wide (m+1) P Q) _ w2;grind[wpIn_cond_true,b5A,c3d,wpIn_ret,a3d]
end
end Go.V
end
