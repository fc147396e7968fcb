import Derived.Test.YtmomonnlmbljoaaGreatDoorHaa
import Derived.Test.YtmomonnlmbljoaaGreatDoorHaf
set_option maxRecDepth 1000000
set_option maxHeartbeats 4000000
set_option linter.unusedVariables false
set_option linter.unusedSimpArgs false
section
namespace Go.V
open Go.RowKit (Below)
section
variable {p:Program}{T:Tab}{call:A8}
theorem Fr.condM {β:Type}(v:Value){x y:M β}(hx:Fr x)(hy:Fr y):Fr (a2E v x y):=by
 cases v with
  |bool b=>cases b with|true=>exact hx|false=>exact hy
  |_=>exact Fr.fail
theorem Fr.crCase {β:Type}(r:CR){kn kp:Value->M β}(h1:∀v,Fr (kn v))(h2:∀v,Fr (kp v)):Fr (W4 r kn kp):=by cases r with|ret v=>exact h1 v|pan v=>exact h2 v
theorem Fr.xcase {β:Type}(x:Xc){a:M β}{b:Nat->M β}{c:M β}{d:Value->M β}(h1:Fr a)(h2:∀i,Fr (b i))(h3:Fr c)(h4:∀v,Fr (d v)):Fr (J1 x a b c d):=by cases x with|normal=>exact h1|exit i=>exact h2 i|ret=>exact h3|pan v=>exact h4 v
theorem Fr.okCall (hc:∀f vs,Fr (call f vs))(f:Nat)(vs:List Value):Fr (Y3 call f vs):=Fr.bind (hc f vs) λr=>Fr.crCase r (λ_=>Fr.pure _) (λ_=>Fr.fail)
theorem Fr.noCall (f:Nat)(vs:List Value):Fr (b8M f vs):=Fr.fail
theorem c6M {β fr o}{kn kp:Value->M β}{s r}(h:a1T p T i7 call fr o kn kp s=some r):(∃v s1,M7 p T b8M fr o s=some (v,s1)/\kn v s1=some r)\/(∃c f ga cr s1,o=.call c/\c.callee=.value f/\a2P T fr f c.args.toList=some ga/\call ga.1 ga.2 s=some (cr,s1)/\W4 cr kn kp s1=some r)\/(∃x v,o=.panic x/\K4 T fr x=some v/\a3i v=true/\kp v s=some r):=by
 have hs:∀m:M Value,i7.bv β m kn s=some r->∃v s1,m s=some (v,s1)/\kn v s1=some r:=λm q=>by obtain⟨v,s1,q1,q2⟩:=o7 (s2:=r.2) (b:=r.1) (f:=kn) q;grind
 have ho:∀x:Option Value,M.obind x kn s=some r->∃v s1,M.lift x s=some (v,s1)/\kn v s1=some r:=λx q=>by cases x with|none=>cases q|some v=>exact⟨v,s,rfl,q⟩
 cases o with
  |move x=>exact Or.inl (ho _ h)|assign x=>exact Or.inl (ho _ h)|call c=>obtain⟨cal,args,ts⟩:=c;cases cal with|value f=>obtain⟨ga,q0,q⟩:=x8 (s2:=r.2) (b:=r.1) h;obtain⟨cr,s1,q1,q2⟩:=o7 (f:=λr=>W4 r kn kp) q;grind|builtin b=>exact Or.inl (hs _ h)|invoke r m=>cases h
  |panic x=>obtain⟨v,q0,q⟩:=x8 (s2:=r.2) (b:=r.1) h;obtain⟨q1,q2⟩:=y8 q;simp_all|_=>exact Or.inl (hs _ h)
theorem Fr.stepK {β:Type}(hc:∀f vs,Fr (call f vs))(fr:List Value)(o:Op){kn kp:Value->M β}(h1:∀v,Fr (kn v))(h2:∀v,Fr (kp v)):Fr (a1T p T i7 call fr o kn kp):=by
 have hs:∀m:M Value,Fr m->Fr (i7.bv β m kn):=λm hm=>Fr.bind hm h1;cases o with
  |move x=>exact Fr.obind _ h1|assign x=>exact Fr.obind _ h1|call c=>obtain⟨cal,args,ts⟩:=c;cases cal with|value f=>exact Fr.obind _ λga=>Fr.bind (hc _ _) λr=>Fr.crCase r h1 h2|builtin b=>exact hs _ (Fr.opBuiltin p T _ _ _ _)|invoke r m=>exact Fr.fail
  |panic x=>exact Fr.obind _ λv=>Fr.guard _ (h2 v)|_=>exact hs _ (Fr.simpleOp p T _ _)
theorem Fr.runC (hc:∀f vs,Fr (call f vs))(ops os:List Oper):∀fr,Fr (a3k p T call ops os fr):=by induction os with|nil=>intro fr;exact Fr.pure _|cons o os ih=>grind[a2U,Fr.stepK,Fr.pure]
theorem Fr.regionC (hc:∀f vs,Fr (call f vs))(ops:List Oper)(draw:Bool)(fr:List Value):Fr (b1F p T call ops draw fr):=by cases draw with|false=>exact Fr.runC hc _ _ _|true=>show Fr (M.bind (V.a0o p T (V.Y3 call) ops ops fr) λy=>M.guard (a0U ops (a2v ops y.2) [] [] 0)<|M.pure (Xc.normal,y.1));grind[Fr.bind,Fr.runD,Fr.okCall,Fr.guard,Fr.pure]
theorem Fr.loopN {σ:Type}{body:σ->M (Xc×σ)}(h:∀x,Fr (body x))(n:Nat):∀x,Fr (I9 body n x):=by induction n with|zero=>intro x;exact Fr.fail|succ n ih=>grind[Q1,Fr.bind,Fr.xcase,Fr.pure]
theorem Fr.execC (hc:∀f vs,Fr (call f vs))(N:Nat):∀c fr,Fr (O9 p T N call c fr):=by intro c;induction c with|skip=>intro fr;exact Fr.pure _|region id ops draw=>intro fr;exact Fr.regionC hc _ _ _|seq a b iha ihb=>intro fr;exact Fr.bind (iha fr) λr=>Fr.xcase r.1 (ihb _) (λ_=>Fr.pure _) (Fr.pure _) (λ_=>Fr.pure _)|cond x a b iha ihb=>intro fr;exact Fr.obind _ λv=>Fr.condM v (iha fr) (ihb fr)|block id b ih=>intro fr;exact Fr.bind (ih fr) λr=>Fr.pure _|loop b ih=>intro fr;exact Fr.loopN ih N fr|exit id=>intro fr;exact Fr.pure _|ret=>intro fr;exact Fr.pure _|_=>intro fr;exact Fr.fail
theorem Fr.resK {β:Type}(fr:List Value)(rs:List ResultVar):∀{k:List Value->M β},(∀vs,Fr (k vs))->Fr (a1L T i7 fr rs k):=by induction rs with|nil=>intro k h;exact h []|cons r rs ih=>intro k h;cases r with|tmp t=>exact ih λvs=>h _|cell a t=>exact Fr.asPtr _ λad=>Fr.bind (Fr.loadV T _ _) λv=>ih λvs=>h _
theorem Fr.finK (fn:Func)(ex:Xc)(fr:List Value):Fr (b8e T i7 fn ex fr):=Fr.xcase ex (Fr.resK _ _ λ_=>Fr.pure _) (λ_=>Fr.fail) (Fr.resK _ _ λ_=>Fr.pure _) (λ_=>Fr.pure _)
theorem Fr.enterC (hc:∀f vs,Fr (call f vs))(N:Nat)(fn:Func)(f:Nat)(args:List Value):Fr (a4G p T N call fn f args):=by grind[V.a4G,Fr.bind,Fr.externV,Fr.pure,Fr.execC,Fr.finK]
theorem Fr.callC {ext:Nat->Option (List Value->M Value)}(he:∀f g,ext f=some g->∀vs,Fr (g vs))(N n:Nat):∀f vs,Fr (b3q p T ext N n f vs):=by induction n with|zero=>intro f vs;exact Fr.fail|succ n ih=>intro f vs;show Fr (match ext f with|some g=>M.bind (g vs) λv=>M.pure (CR.ret v)|none=>M.obind (T.funcs.get f) λfn=>V.a4G p T N (V.b3q p T ext N n) fn f vs);cases hx:ext f with|some g=>exact Fr.bind (he f g hx vs) λ_=>Fr.pure _|none=>grind[Fr.obind,Fr.enterC]
end
section
variable {P:Program}{T:Tab}{B0:Nat}{w0:Base}{w:World}{K:KM}{s s':S}{a:Act}{fr:List Value}{v:Value}{call:A8}
def d0y (v:Value):List PanicEntry:=[{v:=v,recovered:=false}]
def e2J (B0:Nat)(w0:Base)(K:KM)(s':S)(r:CR)(e:Ending)(w':World):Prop:=match r with|.ret v=>∃v' K',e=.returned v'/\Step B0 w0 K s' w' K'/\VR K' v' v|.pan v=>∃v' K',e=.panicked (d0y v')/\Step B0 w0 K s' w' K'/\VR K' v' v
def a6A (P:Program)(T:Tab)(B0:Nat)(w0:Base)(call:A8):Prop:=∀f vs s r s' w K vs',call f vs s=some (r,s')->Sim B0 w0 K s.h w->GK T K->Q0 K s s'->VRL K vs' vs->(∃v v' w' K',r=.ret v/\(callFunc f vs'.toArray).run P w=.ok (.value v') w'/\Step B0 w0 K s' w' K'/\VR K' v' v)\/((callFunc f vs'.toArray).run P w=.ok (.enter f vs'.toArray) w/\Calls P f vs'.toArray w (e2J B0 w0 K s' r))
theorem c3F (hC:a6A P T B0 w0 call):a2N P T B0 w0 (Y3 call):=by intro f vs s v s' w K vs' h S hg F hv;obtain⟨r,s1,h1,h2⟩:=o7 h;cases r with|pan u=>cases h2|ret u=>obtain⟨rfl,rfl⟩:=j7 h2;rcases hC f vs s _ _ w K vs' h1 S hg F hv with⟨x,v',w',K',e,q1,q2,q3⟩|⟨q1,q2⟩;grind;exact Or.inr ⟨q1,q2⟩
theorem c3x:a2N P T B0 w0 b8M:=λ_ _ _ _ _ _ _ _ h=>zl
def exC (K':KM):Xc->Exit->Prop|.normal,e=>e=.normal|.exit id,e=>e=.exit id|.ret,e=>e=.ret|.pan v,e=>∃v',e=.panic (d0y v')/\VR K' v' v
def a5V (B0:Nat)(w0:Base)(K:KM)(s':S)(ds:List Deferred)(ex:Xc)(fr':List Value):Exit->Act->World->Prop:=λe a' w'=>∃K',Step B0 w0 K s' w' K'/\VRL K' a'.tmps.toList fr'/\a'.defers=ds/\exC K' ex e
theorem a5V.from {s1 w1 K1 ds ex fr' e a' w'}(h1:Step B0 w0 K s1 w1 K1)(hc:s1.c<=s'.c)(h:a5V B0 w0 K1 s' ds ex fr' e a' w'):a5V B0 w0 K s' ds ex fr' e a' w':=by obtain⟨K',st,r,d,q⟩:=h;exact⟨K',h1.trans st hc,r,d,q⟩
theorem c0E {f args ga}(h:a2P T fr f args=some ga):∃first captured vs,K4 T fr f=some (.func (.func ga.1) first captured)/\T0 T fr args=some vs/\ga.2=first.toList++(vs++captured.toList):=by
 unfold a2P at h;cases h1:K4 T fr f with
  |none=>rw[h1]at h;cases h|some v=>
   rw[h1]at h;cases h2:T0 T fr args with
    |none=>rw[h2]at h;cases h|some vs=>
     rw[h2]at h;cases v with
      |func fn first captured=>cases fn with|func g=>cases h;exact⟨first,captured,vs,rfl,rfl,by simp only[v8]⟩|_=>cases h
      |_=>cases h
theorem c9z (hT:TabOk P T)(hC:a6A P T B0 w0 call)(hF:∀f vs,Fr (call f vs)){β}{o:Oper}{kn kp:Value->M β}{r}(h:a1T P T i7 call fr o.op kn kp s=some r)(S:Sim B0 w0 K s.h w)(F:∀s1,s1.c<=r.2.c->Q0 K s s1)(hkn:∀v,Fr (kn v))(hkp:∀v,Fr (kp v))(hf:VRL K a.tmps.toList fr)(hg:GK T K){next}{Q}(hn:∀v s1 v' w' K',kn v s1=some r->Step B0 w0 K s1 w' K'->(∀K2,Q0 K2 s1 r.2)->s1.c<=r.2.c->VR K' v' v->next (a.put o.dst v') w')(hp:∀v s1 v' w' K',kp v s1=some r->Step B0 w0 K s1 w' K'->(∀K2,Q0 K2 s1 r.2)->s1.c<=r.2.c->VR K' v' v->Q (.panic (d0y v')) a w'):o.wp P a w next Q:=by
 have Fall:∀s1,s1.c<=r.2.c->Q0 K s s1:=F;rcases c6M h with⟨v,s1,h1,h2⟩|⟨c,f,ga,cr,s1,e1,e2,e3,e4,e5⟩|⟨x,v,e1,e2,e3,e4⟩;have hle:=(hkn v).le h2;refine a8x hT c3x h1 S (Fall _ hle) hf hg λv' w' K' st rr=>?_;exact hn v s1 v' w' K' h2 st (λK2=>Q0.right (F _ (xR _)) (Fr.stepOp P T Fr.noCall _ _) h1) hle rr;have hfr:Fr (W4 cr kn kp):=Fr.crCase cr hkn hkp;have hle:=hfr.le e5;have hfree:∀K2,Q0 K2 s1 r.2:=λK2=>Q0.right (F _ (xR _)) (hF _ _) e4;obtain⟨first,captured,vs,q1,q2,q3⟩:=c0E e3;have rf:=E3 hf hg q1;have rs:=a3V hf hg q2;obtain⟨f1,c1,ef,rf1,rc1⟩:=b4U rf;have rargs:VRL K (f1.toList++(c.args.toList.map a.eval++c1.toList)) ga.2:=by rw[q3];exact rf1.append (rs.append rc1)
 have e:execOp a.eval o=callFunc ga.1 (f1.toList++(c.args.toList.map a.eval++c1.toList)).toArray:=by unfold execOp;rw[e1];show(do let d<-resolve a.eval c o.type;invoke d.target d.args)=_;unfold resolve;rw[e2];show(do let d<-Deferred.ofValue (a.eval f) (c.args.map a.eval);invoke d.target d.args)=_;rw[ef];show callFunc ga.1 (f1++c.args.map a.eval++c1)=_;congr 1;simp_all
 unfold Oper.wp;rw[e];rcases hC ga.1 ga.2 s cr s1 w K _ e4 S hg (Fall _ hle) rargs with⟨u,v',w',K',r1,r2,r3,r4⟩|⟨r1,r2⟩;subst r1;rw[r2];exact hn u s1 v' w' K' e5 r3 hfree hle r4;rw[r1];refine r2.mono λen w' hq=>?_;cases cr with|ret u=>obtain⟨v',K',rfl,t1,t2⟩:=hq;exact hn u s1 v' w' K' e5 t1 hfree hle t2|pan u=>obtain⟨v',K',rfl,t1,t2⟩:=hq;exact hp u s1 v' w' K' e5 t1 hfree hle t2
 have rx:=E3 hf hg e2;have hv:∃t y y',v=.iface t y/\a.eval x=.iface t y':=by
  cases v with
   |iface t y=>generalize hz:Value.iface t y=z at rx;generalize hu:a.eval x=u at rx;cases rx with|plain hpl=>grind|iface q=>simp_all|_=>cases hz
   |_=>cases e3
 obtain⟨t,y,y',rfl,ey⟩:=hv;unfold Oper.wp;have e:(execOp a.eval o).run P w=.halt (.panic (.iface t y')) w:=by simp_all[execOp,Instr.panic]
 rw[e];rw[ey]at rx;exact hp _ s _ w K e4 (Step.same S rfl) (λK2=>λi hi hi2=>F _ (xR _) i hi hi2) ((hkp _).le e4) rx
theorem d3j (hT:TabOk P T)(hC:a6A P T B0 w0 call)(hF:∀f vs,Fr (call f vs))(ops){Q}:∀(n k) (fr) (x) (s s') (K) (a) (w),k+n=ops.size->a3k P T call ops.toList (ops.toList.drop k) fr s=some (x,s')->Sim B0 w0 K s.h w->Q0 K s s'->VRL K a.tmps.toList fr->GK T K->(∀e a' w',a5V B0 w0 K s' a.defers x.1 x.2 e a' w'->Q e a' w')->wpOps P ops Q (List.range' k n) a w:=by intro n;induction n with|zero=>intro k fr x s s' K a w hk h S F hf hg hq;have:ops.toList.drop k=[]:=uE zo;rw[this]at h;obtain⟨rfl,rfl⟩:=j7 h;exact hq _ a w ⟨K,Step.same S rfl,hf,rfl,rfl⟩|succ n ih=>intro k fr x s s' K a w hk h S F hf hg hq;have hlt:k<ops.size:=zy;have hd:ops.toList.drop k=ops[k]::ops.toList.drop (k+1):=xq;rw[hd,a2U]at h;rw[tp];simp only[wpOps,uk hlt];rw[a7y ops a.tmps hf];cases hw:Y2 ops.toList fr ops[k]with|true=>rw[hw]at h;simp only[tf]at h⊢;left;refine c9z hT hC hF h S (λs1 h1=>F.left h1) (λv=>Fr.runC hF _ _ _) (λv=>Fr.pure _) hf hg (λv s1 v' w' K' h2 st fre hle r=>?_) (λv s1 v' w' K' h2 st fre hle r=>?_);refine ih (k+1) _ x s1 s' K' _ w' zy h2 st.sim (fre K') (a6r (hf.mono st.le) _ r) (hg.mono st.le) λe a2 w2 L=>?_;rw[a0M]at L;grind[a5V.from];obtain⟨rfl,rfl⟩:=j7 h2;exact hq _ a w' ⟨K',st,hf.mono st.le,rfl,v',rfl,r⟩|false=>rw[hw]at h;simp only[wL,vN]at h⊢;refine ih (k+1) _ x s s' K _ w zy h S F (a6r hf _ (VR.undef K)) hg λe a2 w2 L=>?_;rw[a0M]at L;simp_all
theorem a5V.cases {K ds x fr' e a' w'}(hx:x≠.normal)(h:a5V B0 w0 K s' ds x fr' e a' w'):e≠.normal:=by obtain⟨K',_,_,_,q⟩:=h;cases x with|normal=>simp_all|exit id=>intro e';subst e';cases q|ret=>intro e';subst e';cases q|pan v=>obtain⟨v',rfl,_⟩:=q;simp_all
theorem b3c {next Q e a w}(he:e≠.normal)(h:Q e a w):Exit.then next Q e a w:=by cases e with|normal=>simp_all|_=>exact h
theorem c7v (hT:TabOk P T)(hM:P.follows .mixedOrders=true)(hC:a6A P T B0 w0 call)(hF:∀f vs,Fr (call f vs))(N):∀c fr s x s' K a w Q,O9 P T N call c fr s=some (x,s')->Sim B0 w0 K s.h w->Q0 K s s'->VRL K a.tmps.toList fr->GK T K->(∀e a' w',a5V B0 w0 K s' a.defers x.1 x.2 e a' w'->Q e a' w')->c.wp P Q a w:=by
 have hFe:∀c fr,Fr (O9 P T N call c fr):=Fr.execC hF N;intro c;induction c with
  |skip=>intro fr s x s' K a w Q h S F hf hg hq;obtain⟨rfl,rfl⟩:=j7 h;exact wp_skip (hq _ _ _ ⟨K,Step.same S rfl,hf,rfl,rfl⟩)|region id ops draw=>intro fr s x s' K a w Q h S F hf hg hq;cases draw with|false=>have h:a3k P T call ops.toList ops.toList fr s=some (x,s'):=h;refine wp_region ?_;rw[tX];exact d3j hT hC hF ops ops.size 0 fr x s s' K a w zu zr S F hf hg hq|true=>have h:M.bind (a0o P T (Y3 call) ops.toList ops.toList fr) (λy=>M.guard (a0U ops.toList (a2v ops.toList y.2) [] [] 0)<|M.pure (Xc.normal,y.1)) s=some (x,s'):=h;obtain⟨⟨fr1,feet⟩,s1,h1,h2⟩:=o7 h;obtain⟨hok,h3⟩:=y8 h2;obtain⟨rfl,rfl⟩:=j7 h3;exact b1V hT hM (c3F hC) (Fr.okCall hF) ops h1 hok S F hf hg λa' w' K' st r d=>hq _ _ _ ⟨K',st,r,d,rfl⟩
  |seq c1 c2 ih1 ih2=>
   intro fr s x s' K a w Q h S F hf hg hq;have h:M.bind (O9 P T N call c1 fr) (λr=>J1 r.1 (O9 P T N call c2 r.2) (λid=>M.pure (.exit id,r.2)) (M.pure (.ret,r.2)) (λv=>M.pure (.pan v,r.2))) s=some (x,s'):=h;obtain⟨⟨x1,fr1⟩,s1,h2,h3⟩:=o7 h;refine wp_seq ?_;by_cases hx:x1=.normal;subst hx;have h3:O9 P T N call c2 fr1 s1=some (x,s'):=h3;have hle:=(hFe _ _).le h3;refine ih1 fr s (.normal,fr1) s1 K a w _ h2 S (F.left hle) hf hg λe a' w' L=>?_;obtain⟨K1,st,r1,d1,e1⟩:=L;have e1:e=.normal:=e1;subst e1;exact ih2 fr1 s1 x s' K1 a' w' Q h3 st.sim (F.right (hFe _ _) h2) r1 (hg.mono st.le) λe a2 w2 L=>hq e a2 w2 (a5V.from st hle (d1▸L));have h4:M.pure (x1,fr1) s1=some (x,s'):=by cases x1 with|normal=>simp_all|_=>exact h3
   obtain⟨rfl,rfl⟩:=j7 h4;refine ih1 fr s _ _ K a w _ h2 S F hf hg λe a' w' L=>?_;exact b3c (L.cases hx) (hq _ _ _ L)|cond o c1 c2 ih1 ih2=>intro fr s x s' K a w Q h S F hf hg hq;obtain⟨u,e1,h1⟩:=x8 h;have r:=E3 hf hg e1;rcases b5V h1 with⟨rfl,h2⟩|⟨rfl,h2⟩;grind[wp_cond_true,b1x];grind[wp_cond_false,b1x]|block id b ih=>
   intro fr s x s' K a w Q h S F hf hg hq;obtain⟨⟨x1,fr1⟩,s1,h2,h3⟩:=o7 h;obtain⟨rfl,rfl⟩:=j7 h3;refine wp_block ?_;refine ih fr s _ _ K a w _ h2 S F hf hg λe a' w' L=>?_;obtain⟨K1,st,r1,d1,e1⟩:=L;cases x1 with
    |normal=>have e1:e=.normal:=e1;subst e1;exact hq _ _ _ ⟨K1,st,r1,d1,rfl⟩|exit id'=>have e1:e=.exit id':=e1;subst e1;show(if id'=id then Q .normal a' w' else Q (.exit id') a' w');cases hb:Nat.beq id' id with|true=>rw[wT (xS hb)];refine hq _ _ _ ⟨K1,st,r1,d1,?_⟩;grind[exC,a4e]|false=>rw[wX (λq=>zq)];refine hq _ _ _ ⟨K1,st,r1,d1,?_⟩;grind[a4e]
    |ret=>have e1:e=.ret:=e1;subst e1;exact hq _ _ _ ⟨K1,st,r1,d1,rfl⟩|pan v=>obtain⟨v',rfl,q⟩:=e1;exact hq _ _ _ ⟨K1,st,r1,d1,v',rfl,q⟩
  |loop b ih=>
   intro fr s x s' K a w Q h S F hf hg hq;have h:I9 (O9 P T N call b) N fr s=some (x,s'):=h;refine sS N ?_;have hFl:∀n fr,Fr (I9 (O9 P T N call b) n fr):=λn=>Fr.loopN (hFe b) n;have key:∀n fr s K a w,I9 (O9 P T N call b) n fr s=some (x,s')->Sim B0 w0 K s.h w->Q0 K s s'->VRL K a.tmps.toList fr->GK T K->(∀e a' w',a5V B0 w0 K s' a.defers x.1 x.2 e a' w'->Q e a' w')->Code.rounds P b Q n a w:=by
    intro n;induction n with
     |zero=>intro fr s K a w h;cases h|succ n ihn=>
      intro fr s K a w h S F hf hg hq;rw[Q1]at h;obtain⟨⟨x1,fr1⟩,s1,h2,h3⟩:=o7 h;show b.wp P (Exit.then (Code.rounds P b Q n) Q) a w;by_cases hx:x1=.normal;subst hx;have h3:I9 (O9 P T N call b) n fr1 s1=some (x,s'):=h3;have hle:=(hFl _ _).le h3;refine ih fr s (.normal,fr1) s1 K a w _ h2 S (F.left hle) hf hg λe a' w' L=>?_;obtain⟨K1,st,r1,d1,e1⟩:=L;have e1:e=.normal:=e1;subst e1;exact ihn fr1 s1 K1 a' w' h3 st.sim (F.right (hFe _ _) h2) r1 (hg.mono st.le) λe a2 w2 L=>hq e a2 w2 (a5V.from st hle (d1▸L));have h4:M.pure (x1,fr1) s1=some (x,s'):=by cases x1 with|normal=>simp_all|_=>exact h3
      obtain⟨rfl,rfl⟩:=j7 h4;refine ih fr s _ _ K a w _ h2 S F hf hg λe a' w' L=>?_;exact b3c (L.cases hx) (hq _ _ _ L)
   grind|exit id=>intro fr s x s' K a w Q h S F hf hg hq;obtain⟨rfl,rfl⟩:=j7 h;exact wp_exit (hq _ _ _ ⟨K,Step.same S rfl,hf,rfl,rfl⟩)|ret=>intro fr s x s' K a w Q h S F hf hg hq;obtain⟨rfl,rfl⟩:=j7 h;exact wp_ret (hq _ _ _ ⟨K,Step.same S rfl,hf,rfl,rfl⟩)|_=>intro fr s x s' K a w Q h;cases h
theorem d3D {β}(fr rs):∀(k:List Value->M β),a1L T i7 fr rs k=M.bind (a1P T fr rs) k:=by
 induction rs with
  |nil=>intro k;rfl|cons r rs ih=>
   intro k;cases r with
    |tmp t=>show a1L T i7 fr rs (λvs=>k (r6 fr t::vs))=M.bind (M.bind (a1P T fr rs) λvs=>M.pure (r6 fr t::vs)) k;rw[Z2,ih];rfl|cell ad t=>
     show R5 (r6 fr ad) (λad=>M.bind (a2F T t ad) λv=>a1L T i7 fr rs λvs=>k (v::vs))=M.bind (R5 (r6 fr ad) λad=>M.bind (a2F T t ad) λv=>M.bind (a1P T fr rs) λvs=>M.pure (v::vs)) k;cases r6 fr ad with
      |pointer o=>cases o with|none=>rfl|some ad=>show M.bind (a2F T t ad) (λv=>a1L T i7 fr rs λvs=>k (v::vs))=M.bind (M.bind (a2F T t ad) λv=>M.bind (a1P T fr rs) λvs=>M.pure (v::vs)) k;rw[Z2];congr 1;funext v;rw[ih,Z2];rfl
      |_=>rfl
theorem c9W {fn ex r}(h:b8e T i7 fn ex fr s=some (r,s')):((ex=.normal\/ex=.ret)/\∃v,r=.ret v/\a9g T fn (.ret,fr) s=some (v,s'))\/∃v,ex=.pan v/\r=.pan v/\s'=s:=by
 have key:a1L T i7 fr fn.results.toList (λvs=>M.pure (CR.ret (a5K vs))) s=some (r,s')->∃v,r=.ret v/\a9g T fn (.ret,fr) s=some (v,s'):=by intro h;rw[d3D]at h;obtain⟨vs,s1,h1,h2⟩:=o7 h;obtain⟨rfl,rfl⟩:=j7 h2;refine⟨a5K vs,rfl,?_⟩;show M.bind (a1P T fr fn.results.toList) (λvs=>M.pure (a5K vs)) s=_;exact V1 h1 rfl
 cases ex with|normal=>exact Or.inl ⟨Or.inl rfl,key h⟩|exit id=>cases h|ret=>exact Or.inl ⟨Or.inr rfl,key h⟩|pan v=>obtain⟨rfl,rfl⟩:=j7 h;simp_all
theorem c5w (hT:TabOk P T)(hM:P.follows .mixedOrders=true){ext}(hE:b6Z P T B0 w0 ext)(N n):a6A P T B0 w0 (b3q P T ext N n):=by
 induction n with
  |zero=>intro f vs s r s' w K vs' h;cases h|succ n ih=>
   intro f vs s r s' w K vs' h S hg F hvs;have h0:(match ext f with|some g=>M.bind (g vs) λv=>M.pure (CR.ret v)|none=>M.obind (T.funcs.get f) λfn=>a4G P T N (b3q P T ext N n) fn f vs) s=some (r,s'):=h;have hFc:=Fr.callC (p:=P) (T:=T) hE.1 N n;cases hx:ext f with
    |some g=>rw[hx]at h0;obtain⟨v,s1,h1,h2⟩:=o7 h0;obtain⟨rfl,rfl⟩:=j7 h2;rcases hE.2 f g hx vs s v _ w K vs' h1 S hg F hvs with⟨v',w',K',q1,q2,q3⟩|⟨q1,q2⟩;grind;exact Or.inr ⟨q1,q2⟩|none=>
     rw[hx]at h0;obtain⟨fn,hfn,h1⟩:=x8 h0;obtain⟨hPf,hnum⟩:=hT.funcs f fn hfn;unfold a4G at h1;cases hb:fn.body with
      |none=>
       rw[hb]at h1;obtain⟨v,s1,h2,h3⟩:=o7 h1;obtain⟨rfl,rfl⟩:=j7 h3;have h4:a4P P T (λ_=>none) 1 f vs s=some (v,s'):=by show M.obind (T.funcs.get f) (λfn=>enter P T (a4P P T (λ_=>none) 0) 0 fn f vs) s=_;rw[hfn];show enter P T (a4P P T (λ_=>none) 0) 0 fn f vs s=_;simp_all[enter]
       rcases b0F hT hM (ext:=λ_=>none) (B0:=B0) (w0:=w0) ⟨λ_ _ q=>zk,λ_ _ q=>zk⟩ 1 f vs s v s' w K vs' h4 S hg F hvs with⟨v',w',K',q1,q2,q3⟩|⟨q1,q2⟩;grind;exact Or.inr ⟨q1,q2⟩|some c=>right;rw[hb]at h1;obtain⟨⟨ex,fr1⟩,s1,h2,h3⟩:=o7 h1;have hle:s1.c<=s'.c:=(Fr.finK fn ex fr1).le h3;refine⟨?_,?_⟩;simp_all[callFunc];refine calls_of_wp hPf hb ?_;rw[v8,y9,b0S]at h2;refine c7v hT hM ih hFc N c _ s (ex,fr1) s1 K _ w _ h2 S (F.left hle) ?_ hg λe a' w' L=>?_;show VRL K (vs'.toArray++Array.replicate (fn.ntmps-vs'.toArray.size) undef).toList (vs++List.replicate (fn.ntmps-vs.length) undef);simp only[uZ,uV,um,hvs.len];exact hvs.append (VRL.replicate _);obtain⟨K1,st,r1,d1,e1⟩:=L;rcases c9W h3 with⟨hex,v,rfl,hfin⟩|⟨v,hex,rfl,rfl⟩;obtain⟨f1,f2,f3,v',f4,f5⟩:=b3P hT hfin r1 st.sim;have st2:Step B0 w0 K s' w' K1:=⟨st.le,λi g hi=>st.far i g zy,by rw[f2];exact st.sim⟩;rcases hex with rfl|rfl;have e1:e=.normal:=e1;subst e1;exact⟨d1,v',f4,v',K1,rfl,st2,f5⟩;have e1:e=.ret:=e1;subst e1;exact⟨d1,v',f4,v',K1,rfl,st2,f5⟩;subst hex;obtain⟨v',rfl,q⟩:=e1;exact⟨d1,v',K1,rfl,st,q⟩
theorem Le.foot {α}{m m':M α}(h:Le m m'):Le (M.foot m) (M.foot m'):=λs r e=>by unfold M.foot at e⊢;cases hm:m ⟨s.c,s.h,[],[]⟩with|none=>rw[hm]at e;cases e|some x=>rw[hm]at e;rw[h _ _ hm];exact e
theorem Le.xcase {β:Type}{x:Xc}{a a':M β}{b b':Nat->M β}{c c':M β}{d d':Value->M β}(h1:Le a a')(h2:∀i,Le (b i) (b' i))(h3:Le c c')(h4:∀v,Le (d v) (d' v)):Le (J1 x a b c d) (J1 x a' b' c' d'):=a5b (λ_=>h1) (λi _=>h2 i) (λ_=>h3) (λv _=>h4 v)
section
variable {c c':A8}(hc:∀f vs,Le (c f vs) (c' f vs))
include hc
theorem c0A (f vs):Le (Y3 c f vs) (Y3 c' f vs):=Le.bind (hc f vs) λ_=>Le.refl _
theorem c3g {β}(fr o){kn kp kn' kp':Value->M β}(h1:∀v,Le (kn v) (kn' v))(h2:∀v,Le (kp v) (kp' v)):Le (a1T P T i7 c fr o kn kp) (a1T P T i7 c' fr o kn' kp'):=by
 have hs:∀m:M Value,Le (i7.bv β m kn) (i7.bv β m kn'):=λm=>Le.bind (Le.refl _) h1;cases o with
  |move x=>exact Le.obind λv _=>h1 v|assign x=>exact Le.obind λv _=>h1 v|call cl=>
   obtain⟨cal,args,ts⟩:=cl;cases cal with
    |value f=>refine Le.obind λga _=>?_;show Le (M.bind (c ga.1 ga.2) λr=>W4 r kn kp) (M.bind (c' ga.1 ga.2) λr=>W4 r kn' kp');refine Le.bind (hc _ _) λr=>?_;cases r with|ret v=>exact h1 v|pan v=>exact h2 v
    |builtin b=>exact hs _|invoke r m=>exact Le.fail _
  |panic x=>refine Le.obind λv _=>?_;cases a3i v with|true=>exact h2 v|false=>exact Le.fail _
  |_=>exact hs _
theorem c6J (ops os):∀fr,Le (a3k P T c ops os fr) (a3k P T c' ops os fr):=by induction os with|nil=>intro fr;exact Le.refl _|cons o os ih=>grind[a2U,c3g,Le.refl]
theorem c0U (fr o):Le (M7 P T (Y3 c) fr o) (M7 P T (Y3 c') fr o):=by
 unfold M7;cases a9r o with
  |none=>exact Le.refl _|some cl=>
   obtain⟨cal,args,ts⟩:=cl;cases cal with
    |value f=>
     show Le (a2Y T fr f args.toList (Y3 c)) (a2Y T fr f args.toList (Y3 c'));unfold a2Y ev evs;refine Le.obind λv _=>Le.obind λvs _=>?_;cases v with
      |func fn first captured=>cases fn with|func g=>exact c0A hc _ _|_=>exact Le.fail _
      |_=>exact Le.fail _
    |builtin b=>exact Le.refl _|invoke r m=>exact Le.fail _
theorem c6a (ops os):∀fr,Le (a0o P T (Y3 c) ops os fr) (a0o P T (Y3 c') ops os fr):=by induction os with|nil=>intro fr;exact Le.refl _|cons o os ih=>grind[a5v,Le.bind,Le.foot,c0U,Le.refl]
theorem c4x (N):∀k fr,Le (O9 P T N c k fr) (O9 P T N c' k fr):=by
 intro k;induction k with
  |region id ops draw=>intro fr;cases draw with|false=>exact c6J hc _ _ _|true=>show Le (M.bind (a0o P T (Y3 c) ops.toList ops.toList fr) λy=>M.guard (a0U ops.toList (a2v ops.toList y.2) [] [] 0)<|M.pure (Xc.normal,y.1)) (M.bind (a0o P T (Y3 c') ops.toList ops.toList fr) λy=>M.guard (a0U ops.toList (a2v ops.toList y.2) [] [] 0)<|M.pure (Xc.normal,y.1));grind[Le.bind,c6a,Le.refl]
  |seq a b iha ihb=>intro fr;exact Le.bind (iha fr) λr=>Le.xcase (ihb _) (λ_=>Le.refl _) (Le.refl _) (λ_=>Le.refl _)|cond x a b iha ihb=>
   intro fr;refine Le.obind λv _=>?_;cases v with
    |bool t=>cases t with|true=>exact iha fr|false=>exact ihb fr
    |_=>exact Le.fail _
  |block id b ih=>intro fr;exact Le.bind (ih fr) λr=>Le.refl _|loop b ih=>
   intro fr;have key:∀n fr,Le (I9 (O9 P T N c b) n fr) (I9 (O9 P T N c' b) n fr):=by intro n;induction n with|zero=>intro fr;exact Le.fail _|succ n ihn=>grind[Q1,Le.bind,Le.xcase,Le.refl]
   exact key N fr|_=>intro fr;exact Le.refl _
theorem c0R (N fn f args):Le (a4G P T N c fn f args) (a4G P T N c' fn f args):=by grind[a4G,Le.refl,Le.bind,c4x]
end
noncomputable def atF (P:Program)(T:Tab)(ext:Nat->Option (List Value->M Value))(N f:Nat)(call:A8)(args:List Value):M CR:=match ext f with|some g=>M.bind (g args) λv=>M.pure (CR.ret v)|none=>M.obind (T.funcs.get f) λfn=>a4G P T N call fn f args
def a5S (P:Program)(T:Tab)(ext:Nat->Option (List Value->M Value))(N:Nat)(sh:a0g):Prop:=∀f g,sh.get f=some g->∀call args,Le (g call args) (atF P T ext N f call args)
theorem c9n {ext N sh}(h:a5S P T ext N sh)(n):∀f vs,Le (j0 sh n f vs) (b3q P T ext N n f vs):=by induction n with|zero=>intro f vs;exact Le.fail _|succ n ih=>intro f vs;show Le (M.obind (sh.get f) λg=>g (j0 sh n) vs) (atF P T ext N f (b3q P T ext N n) vs);cases hg:sh.get f with|none=>exact Le.fail _|some g=>refine Le.trans (h f g hg _ _) ?_;grind[atF,Le.refl,Le.obind,c0R]
theorem a9d {ext N f fn c}(he:ext f=none)(hf:T.funcs.get f=some fn)(hb:fn.body=some c)(pn pl){call args m}(h:a1m P T a1J pn N call fn c pl args=m):Le m (atF P T ext N f call args):=by subst h;unfold atF;rw[he,hf];show Le _ (a4G P T N call fn f args);unfold a4G a1m;rw[hb,a4l];exact c8t N c pl CR _ _ (λex fr=>b8e T i7 fn ex fr) λ_ _=>Le.refl _
theorem d2E {ext N f g}(he:ext f=some g){call args}:Le (M.bind (g args) λv=>M.pure (CR.ret v)) (atF P T ext N f call args):=by grind[atF,Le.refl]
theorem a8B (hT:TabOk P T)(hM:P.follows .mixedOrders=true){ext}(hE:b6Z P T B0 w0 ext){N sh}(hs:a5S P T ext N sh)(n):a6A P T B0 w0 (j0 sh n):=λf vs s r s' w K vs' h=>c5w hT hM hE N n f vs s r s' w K vs' (c9n hs n f vs s _ h)
end
end Go.V
end
section
noncomputable section
namespace Go.V
abbrev R2:=Xc×List Value
def noP {β:Type}:Value->M β:=λ_=>M.fail
def a6S (v:Value):M Value:=R5 v λa=>M.bind (loadN a 1) λvs=>M.pure (r6 vs 0)
def a7Q (n:Nat)(v:Value):M Value:=R5 v λa=>M.bind (loadN a n) λvs=>M.pure (.agg ⟨vs⟩)
def b4f (n:Nat)(va v:Value):M Value:=R5 va λa=>M.bind (M.guard (!(Nat.beq n 0)&&Nat.beq (j9 v.cells.toList) n)<|storeN a v.cells.toList) λ_=>M.pure undef
def c9H (zs:List Value):M Value:=M.bind (M5 zs) λa=>M.pure (.pointer (some a))
def a9M (v:Value):M Value:=M.guard (!(a0l v.cells.toList))<|M.bind (M5 v.cells.toList) λa=>M.pure (.pointer (some a))
def a3a (os:List (Nat×Nat)):List Value->List Value->Option (List Value):=List.rec (motive:=λ_=>List Value->List Value->Option (List Value)) (λ_ cs=>some cs) (λq _ ih vs cs=>match vs with|[]=>none|v::vs=>match Nat.beq (j9 v.cells.toList) q.2&&Nat.ble (q.1+q.2) (j9 cs)with|true=>ih vs (a1a v.cells.toList cs q.1)|false=>none) os
def c7p (os:List (Nat×Nat))(vs zs:List Value):M Value:=M.obind (a3a os vs zs) λcs=>M.pure (.agg ⟨cs⟩)
def a7O (n len:Nat)(os:List (Nat×Nat))(vs zs:List Value):M Value:=M.obind (a3a os vs zs) λcs=>M.bind (M5 cs) λa=>M.pure (.slice (some a) len n)
def d7I (v:Value):M Value:=match v with|.pointer a=>M.guard a.isSome<|M.pure (.pointer a)|.func fn a b=>M.guard (b8A fn)<|M.pure (.func fn a b)|_=>M.fail
def a2f (vc va vb:Value):M Value:=match vc with
 |.bool t=>match t with|true=>M.pure va|false=>M.pure vb
 |_=>M.fail
def b8C (k:IntKind)(x:Value):M Value:=match x with|.int _ n=>M.pure (.int k (G8 k n))|_=>M.fail
def xFA (off:Nat)(x:Value):M Value:=R5 x λa=>M.pure (.pointer (some (fwd a off)))
def xF1 (off:Nat)(x:Value):M Value:=match x with|.agg cs=>M.obind (O6 cs.toList off) M.pure|_=>M.fail
def xFN (off n:Nat)(x:Value):M Value:=match x with|.agg cs=>M.pure (.agg ⟨Q2 (z7 cs.toList off) n⟩)|_=>M.fail
def elemAtN (n:Nat)(a:Addr)(i len:Nat):M Value:=M.guard (Nat.blt i len&& !(Nat.beq n 0))<|M.pure (.pointer (some (fwd a (i*n))))
def a6i (n:Nat)(x ix:Value):M Value:=M.obind (a5x ix) λi=>match x with|.slice a len es=>M.obind a λa=>M.guard (Nat.beq es n)<|elemAtN n a i len|_=>M.fail
def d5E (n len:Nat)(x ix:Value):M Value:=M.obind (a5x ix) λi=>R5 x λa=>elemAtN n a i len
def b3C (a b:Value):M Value:=M.obind (a5x b) λj=>match a with|.string s=>M.obind (O6 s.data.toList j) λb=>M.pure (a4T b)|_=>M.fail
def d7a (i:Nat)(a:Value):M Value:=match a with|.tuple vs=>M.obind (O6 vs.toList i) M.pure|_=>M.fail
def a7r (x:Value):M Value:=match x with|.string s=>M.pure (goInt (j9 s.data.toList))|_=>M.fail
def b7e (x:Value):M Value:=match x with|.slice _ n _=>M.pure (goInt n)|_=>M.fail
def a2B (e:TI)(s x:Value):M Value:=M.bind (a6U e.size x) λvs=>fList vs λvs=>X7 e s vs
def a4w (x:Value)(lo hi:Option Value):M Value:=match x with|.string s=>a5Y s lo hi|_=>M.fail
def cutN (n:Nat)(a:Addr)(len:Nat)(lo hi:Option Value):M Value:=M.obind (a0X 0 lo) λl=>M.obind (a0X len hi) λh=>M.guard (Nat.ble l h&&Nat.ble h len&& !(Nat.beq n 0))<|M.pure (.slice (some (fwd a (l*n))) (h-l) n)
def a5r (n:Nat)(x:Value)(lo hi:Option Value):M Value:=match x with
 |.slice a len es=>match a with|some a=>M.guard (Nat.beq es n)<|cutN n a len lo hi|none=>M.guard (Nat.beq len 0)<|cutNil lo hi
 |_=>M.fail
def d0D (fn:Fn)(va vb:List Value):M Value:=M.pure (.func fn ⟨va⟩ ⟨vb⟩)
section
variable (p:Program)(T:Tab)
def R9 (op:BinOp)(t:TypeId)(x y:Operand)(a b:Value):M Value:=match a with
 |.int k n=>match b with
  |.int k' m=>match a1n op k k' n m with|some v=>M.pure v|none=>a7n p T op t x y a b
  |_=>M.fail
 |.string s=>match b with|.string s'=>M.lift (b1K op s.data.toList s'.data.toList)|_=>M.fail
 |_=>a7n p T op t x y a b
def xUn (op:UnOp)(a:Value):M Value:=M.guard (plain a)<|pureV (R6 p (Op.unary op a))
def d5C (ts:Array TypeId)(vs:List Value):M Value:=M.guard (A9 plain vs)<|pureV (R6 p (Builtin.max_ ts 0 ⟨vs⟩))
def e5R (ts:Array TypeId)(vs:List Value):M Value:=M.guard (A9 plain vs)<|pureV (R6 p (Builtin.min_ ts 0 ⟨vs⟩))
def c2w (t:TypeId)(a b v:Value):M Value:=M.bind (a5z T t a b v) λ_=>M.pure undef
def c2F:M Value:=M.bind (new (.map [])) λb=>M.pure (.map (some b))
def e0u (v:Value):M Value:=M.guard (b4a v)<|M.bind (new (.map [])) λb=>M.pure (.map (some b))
def d4k (v:Value):M Value:=match v with|.string s=>M.bind (new (.siter s 0)) λb=>M.pure (.pointer (some ⟨b,0,some 0⟩))|_=>M.fail
def e3d (v:Value):M Value:=R5 v λa=>M.guard (Nat.beq a.off 0&&c5K a.spot)<|M.bind (rd a.block) λo=>match o with|.siter s pos=>b0T a.block s pos|_=>M.fail
end
def a8j (f:Func):Code:=match f.body with|some c=>c|none=>.skip
end Go.V
end
section
noncomputable section
namespace Go.V
theorem E9 {β}(m k):i7.bv β m k=M.bind m k:=xK rfl rfl
theorem J2 {β}(m kn kp):i7.bc β m kn kp=M.bind m λr=>W4 r kn kp:=xK rfl rfl
theorem I1 {β}(m k):i7.bj β m k=M.bind m λr=>k r.1 r.2:=xK rfl rfl
theorem a4Z (b n x):i7.lp b n x=I9 b n x:=xK rfl rfl
theorem b4o {β}(v)(kn kp:Value->M β):W4 (.ret v) kn kp=kn v:=xK rfl rfl
theorem w9 {β}(a:M β)(b c d):J1 .normal a b c d=a:=xK rfl rfl
theorem Y8 {β}(i)(a:M β)(b c d):J1 (.exit i) a b c d=b i:=xK rfl rfl
theorem a0Q {β}(a:M β)(b c d):J1 .ret a b c d=c:=xK rfl rfl
theorem o9 {α}(x y:α):bcase true x y=x:=xK rfl rfl
theorem m7 {α}(x y:α):bcase false x y=y:=xK rfl rfl
theorem B9 (b):Y6 true (.bool b)=b:=zm
theorem A3 (b):Y6 false (.bool b)=!b:=zm
theorem B5 {β}(b)(x y:M β):a2E (.bool b) x y=bcase b x y:=xK rfl rfl
theorem C3 {α}(b)(x y:α):bcase b (M.pure x) (M.pure y)=M.pure (bcase b x y):=zm
theorem C6 (b)(x:Xc)(l m:List Value):bcase b (x,l) (x,m)=(x,bcase b l m):=zm
theorem C4 (b l m i):r6 (bcase b l m) i=bcase b (r6 l i) (r6 m i):=zm
theorem a2D {α}(b)(x y:α):bcase (!b) x y=bcase b y x:=zm
theorem a0B (b c):a2f (.bool b) (bcase b (.bool c) undef) (.bool false)=M.pure (.bool (b&&c)):=zm
theorem a7H (b c):a2f (.bool b) (.bool true) (bcase b undef (.bool c))=M.pure (.bool (b||c)):=zm
theorem J9 (v l):r6 (v::l) 0=v:=xK rfl rfl
theorem K7 (v l i):r6 (v::l) (i+1)=r6 l i:=xK rfl rfl
section
variable (p:Program)(T:Tab)
theorem a4g {op t x y k n m v}(h1:a3W (a2Z op k) n m=none)(h:b1S op k n m=some v):R9 p T op t x y (.int k n) (.int k m)=M.pure v:=by
 have hk:Q7 k k=true:=by cases k<;>rfl
 have:a1n op k k n m=some v:=by grind[a1n]
 grind[R9]
theorem a4d {op}(h:op≠.shl)(h':op≠.shr)(k n m):a3W (a2Z op k) n m=none:=by
 unfold a3W;cases n with
  |ofNat n=>
   cases m with
    |ofNat m=>cases op<;>first|rfl|exact absurd rfl h|exact absurd rfl h'
    |negSucc m=>rfl
  |negSucc n=>rfl
theorem x9 (t x y k n m):R9 p T .lss t x y (.int k n) (.int k m)=M.pure (.bool (decide (n<m))):=a4g p T (a4d zv zv _ _ _) rfl
theorem a4c (t x y k n m):R9 p T .leq t x y (.int k n) (.int k m)=M.pure (.bool (decide (n<=m))):=a4g p T (a4d zv zv _ _ _) rfl
theorem B7 (t x y k n m):R9 p T .gtr t x y (.int k n) (.int k m)=M.pure (.bool (decide (m<n))):=a4g p T (a4d zv zv _ _ _) rfl
theorem Z6 (t x y k n m):R9 p T .geq t x y (.int k n) (.int k m)=M.pure (.bool (decide (m<=n))):=a4g p T (a4d zv zv _ _ _) rfl
theorem G0 (t x y k n m):R9 p T .eql t x y (.int k n) (.int k m)=M.pure (.bool (decide (n=m))):=a4g p T (a4d zv zv _ _ _) rfl
theorem a4V (t x y k n m):R9 p T .neq t x y (.int k n) (.int k m)=M.pure (.bool (!(decide (n=m)))):=a4g p T (a4d zv zv _ _ _) rfl
theorem A6 (t x y k n m):R9 p T .add t x y (.int k n) (.int k m)=M.pure (.int k (G8 k (n+m))):=a4g p T (a4d zv zv _ _ _) rfl
theorem G1 (t x y k n m):R9 p T .sub t x y (.int k n) (.int k m)=M.pure (.int k (G8 k (n-m))):=a4g p T (a4d zv zv _ _ _) rfl
theorem F9 (b):xUn p .not (.bool b)=M.pure (.bool (!b)):=zm
end
theorem a0n (s j b)(h:s.data.toList[j]?=some b):b3C (.string s) (.int .i64 (.ofNat j))=M.pure (.int .u8 (.ofNat b.toNat)):=by unfold b3C;show M.obind (O6 s.data.toList j) (λb=>M.pure (a4T b))=_;rw[a0J,h];rfl
theorem a3d (s):a7r (.string s)=M.pure (.int .i64 (.ofNat s.data.toList.length)):=by unfold a7r;simp only[y9];rfl
end Go.V
end
section
noncomputable section
namespace Go.V
def ar0 (f:A8->M CR):A8->List Value->M CR:=λcall args=>match args with|[]=>f call|_=>M.fail
def ar1 (f:A8->Value->M CR):A8->List Value->M CR:=λcall args=>match args with|[a]=>f call a|_=>M.fail
def ar2 (f:A8->Value->Value->M CR):A8->List Value->M CR:=λcall args=>match args with|[a,b]=>f call a b|_=>M.fail
def ar3 (f:A8->Value->Value->Value->M CR):A8->List Value->M CR:=λcall args=>match args with|[a,b,c]=>f call a b c|_=>M.fail
def ar4 (f:A8->Value->Value->Value->Value->M CR):A8->List Value->M CR:=λcall args=>match args with|[a,b,c,d]=>f call a b c d|_=>M.fail
def ar5 (f:A8->Value->Value->Value->Value->Value->M CR):A8->List Value->M CR:=λcall args=>match args with|[a,b,c,d,e]=>f call a b c d e|_=>M.fail
def arX (g:List Value->M Value):A8->List Value->M CR:=λ_ args=>M.bind (g args) λv=>M.pure (.ret v)
section
variable {P:Program}{T:Tab}{ext:Nat->Option (List Value->M Value)}{N f:Nat}{fn:Func}{c:Code}{pn:Bool}{pl:Pl}
def Fit (P:Program)(T:Tab)(ext:Nat->Option (List Value->M Value))(N f:Nat)(g:A8->List Value->M CR):Prop:=∀call args,Le (g call args) (atF P T ext N f call args)
theorem e2C {sh:Cb->Nat->A8->M CR}(he:ext f=none)(hf:T.funcs.get f=some fn)(hb:fn.body=some c)(h:∀cb N call,a1m P T cb pn N call fn c pl []=sh cb N call):Fit P T ext N f (ar0 (sh a1J N)):=by intro call args;unfold ar0;grind[a9d,Le.fail]
theorem e1Z {sh:Cb->Nat->A8->Value->M CR}(he:ext f=none)(hf:T.funcs.get f=some fn)(hb:fn.body=some c)(h:∀cb N call a,a1m P T cb pn N call fn c pl [a]=sh cb N call a):Fit P T ext N f (ar1 (sh a1J N)):=by intro call args;unfold ar1;grind[a9d,Le.fail]
theorem e0v {sh:Cb->Nat->A8->Value->Value->M CR}(he:ext f=none)(hf:T.funcs.get f=some fn)(hb:fn.body=some c)(h:∀cb N call a b,a1m P T cb pn N call fn c pl [a,b]=sh cb N call a b):Fit P T ext N f (ar2 (sh a1J N)):=by intro call args;unfold ar2;grind[a9d,Le.fail]
theorem e0D {sh:Cb->Nat->A8->Value->Value->Value->M CR}(he:ext f=none)(hf:T.funcs.get f=some fn)(hb:fn.body=some c)(h:∀cb N call a b d,a1m P T cb pn N call fn c pl [a,b,d]=sh cb N call a b d):Fit P T ext N f (ar3 (sh a1J N)):=by intro call args;unfold ar3;grind[a9d,Le.fail]
theorem e0M {sh:Cb->Nat->A8->Value->Value->Value->Value->M CR}(he:ext f=none)(hf:T.funcs.get f=some fn)(hb:fn.body=some c)(h:∀cb N call a b d e,a1m P T cb pn N call fn c pl [a,b,d,e]=sh cb N call a b d e):Fit P T ext N f (ar4 (sh a1J N)):=by intro call args;unfold ar4;grind[a9d,Le.fail]
theorem e3b {sh:Cb->Nat->A8->Value->Value->Value->Value->Value->M CR}(he:ext f=none)(hf:T.funcs.get f=some fn)(hb:fn.body=some c)(h:∀cb N call a b d e g,a1m P T cb pn N call fn c pl [a,b,d,e,g]=sh cb N call a b d e g):Fit P T ext N f (ar5 (sh a1J N)):=by intro call args;unfold ar5;grind[a9d,Le.fail]
theorem d0Y {g}(he:ext f=some g):Fit P T ext N f (arX g):=λ_ _=>d2E he
inductive OAll (Q:(A8→List Value→M CR)→Prop):Option (A8→List Value→M CR)→Prop
 | none:OAll Q Option.none
 | some {g:A8→List Value→M CR}:Q g→OAll Q (Option.some g)
inductive TAll:(Nat→(A8→List Value→M CR)→Prop)→a0g→Prop
 | leaf {Q:Nat→(A8→List Value→M CR)→Prop}:TAll Q .leaf
 | node {Q:Nat→(A8→List Value→M CR)→Prop} {v:Option (A8→List Value→M CR)} {l r:a0g}:OAll (Q 0) v→TAll (fun k=>Q (2 * k+1)) l→TAll (fun k=>Q (2 * k+2)) r→TAll Q (.node v l r)
theorem TAll.get {Q t}(h:TAll Q t):∀f g,t.get f=some g->Q f g:=by
 induction h with
  |leaf=>intro f g e;cases e|node hv _ _ ihl ihr=>
   intro f g e;cases f with
    |zero=>cases hv with|none=>cases e|some q=>cases e;exact q
    |succ k=>rw[Trie.get_node_succ]at e;grind
end
end Go.V
end
section
noncomputable section
namespace Go.V
open Go.RowKit (Below)
abbrev a0E:=List (List Value)
def b1O (vs:a0E):Nat->Trie VObj->Trie VObj:=List.rec (motive:=λ_=>Nat->Trie VObj->Trie VObj) (λ_ t=>t) (λv _ ih i t=>Trie.putK (some (.cells (G4 (λx=>(x,0)) v) 0 true)) (i+1) t i λt=>ih (i+1) t) vs
def a1e (vs:a0E):S:=⟨j9 vs,b1O vs 0 .leaf,[],[]⟩
structure LaidV (vs:a0E) (w:World):Prop where
 size:vs.length≤w.heap.size
 cell:∀ (g:Nat) (l:List Value),vs[g]?=some l→∀ (off:Nat) v,l[off]?=some v→w.cell? ⟨g,off,none⟩=some v
 row:∀ (g:Nat) (l:List Value),vs[g]?=some l→l≠[]→∃ t fz,w.heap[g]?=some (.cells ⟨l⟩ t fz)
theorem LaidV.below {vs B w w'}(h:LaidV vs w)(b:Below B w w')(hB:vs.length<=B):LaidV vs w':=⟨wg h.size b.size,λg l hg off v hv=>by have hlt:g<vs.length:=(xQ.1 hg).1;rw[show w'.cell? ⟨g,off,none⟩=w.cell? ⟨g,off,none⟩from vH (w:=w) (b.block g zy)];exact h.cell g l hg off v hv,λg l hg hl=>by have hlt:g<vs.length:=(xQ.1 hg).1;rw[b.block g zy];exact h.row g l hg hl⟩
theorem c0M (vs:a0E):∀(i:Nat) (t:Trie VObj) (j:Nat),(b1O vs i t).get j=if i<=j then(match vs[j-i]? with|some l=>some (.cells (l.map λx=>(x,0)) 0 true)|none=>t.get j)else t.get j:=by
 induction vs with
  |nil=>intro i t j;show t.get j=_;split<;>simp|cons v vs ih=>
   intro i t j;show(Trie.putK (some (.cells (G4 (λx=>(x,0)) v) 0 true)) (i+1) t i λt=>b1O vs (i+1) t).get j=_;rw[Trie.putK_eq,ih,S9];by_cases h1:i+1<=j;rw[wT h1,wT zy,show j-i=(j-(i+1))+1 by omega,vT];cases vs[j-(i+1)]? with|some l=>rfl|none=>simp only;rw[Trie.get_put _ _ _ _ zy,wX zy]
   rw[wX h1];by_cases h2:i<=j;obtain rfl:j=i:=zy;rw[wT h2,Trie.get_put _ _ _ _ zy,wT rfl];simp;rw[wX h2,Trie.get_put _ _ _ _ zy,wX zy]
section
variable {P:Program}{T:Tab}{w:World}{vs:a0E}
def a4i (vs:a0E):KM:=λb g=>if b<vs.length/\g=0 then some ⟨b,0,0,0,false⟩else none
theorem a0P {b g l}(h:a4i vs b g=some l):b<vs.length/\g=0/\l=⟨b,0,0,0,false⟩:=by unfold a4i at h;simp_all
theorem S4 (j:Nat):(a1e vs).h.get j=match vs[j]? with|some l=>some (.cells (l.map λx=>(x,0)) 0 true)|none=>none:=by show(b1O vs 0 .leaf).get j=_;rw[c0M,wT (wR _),uJ];rfl
theorem a8y {R}(hR:∀k,w.heap.size<=k->R k)(hR0:∀k,k<vs.length->R k)(hL:LaidV vs w)(hp:∀l∈vs,∀v∈l,plain v=true):Sim w.heap.size ⟨w,R⟩ (a4i vs) (a1e vs).h w:=by
 have hcs:∀b cs cur ro,(a1e vs).h.get b=some (.cells cs cur ro)->∃l,vs[b]?=some l/\cs=l.map (λx=>(x,0))/\cur=0/\ro=true:=by intro b cs cur ro h;rw[S4]at h;grind
 refine⟨⟨xR _,hR⟩,uX _ _,?_,?_,?_,?_,?_,?_,?_,?_,?_,?_,λb g l h _=>(a0P h).2.1⟩;intro b g l h;obtain⟨h1,_,rfl⟩:=a0P h;exact⟨xI h1 hL.size,hR0 _ h1⟩;intro b g l h;obtain⟨h1,_,rfl⟩:=a0P h;rw[S4,xP h1];simp_all;intro b g l h ho;obtain⟨_,_,rfl⟩:=a0P h;cases ho;intro b g l b' g' l' h _ _ ho;obtain⟨_,_,rfl⟩:=a0P h;cases ho;intro b g l g' l' h h';obtain⟨_,_,rfl⟩:=a0P h;obtain⟨_,_,rfl⟩:=a0P h';simp_all;intro b g l cs cur ro h ho;obtain⟨_,_,rfl⟩:=a0P h;cases ho;intro b cs cur ro h;obtain⟨l,h1,rfl,rfl,rfl⟩:=hcs b cs cur ro h;refine⟨λg l' q=>?_,λg hg=>⟨⟨b,0,0,0,false⟩,?_⟩,λc hc=>?_⟩;obtain⟨_,rfl,rfl⟩:=a0P q;simp_all;unfold a4i;rw[wT ⟨(xQ.1 h1).1,tG.1 hg⟩];grind;intro b cs cur ro g l h hk off v st hv hst hlo;obtain⟨l',h1,rfl,rfl,rfl⟩:=hcs b cs cur ro h;obtain⟨_,rfl,rfl⟩:=a0P hk;rw[wc]at hv;cases q:l'[off]? with|none=>rw[q]at hv;cases hv|some x=>rw[q]at hv;cases hv;refine⟨v,?_,.plain (hp l' (we h1) v (we q))⟩;show w.cell? ⟨b,0+(off-0),none⟩=some v;rw[wt,uJ];exact hL.cell b l' h1 off v q
 grind[S4];grind[S4]
theorem b0g (h:T.ng<=vs.length):GK T (a4i vs):=λg hg=>⟨⟨g,0,0,0,false⟩,by unfold a4i;rw[wT ⟨zy,rfl⟩],rfl,rfl,rfl⟩
def a0z (P:Program)(T:Tab)(vs:a0E)(ext:Nat->Option (List Value->M Value)):Prop:=∀B0 w0,LaidV vs w0.w->vs.length<=B0->b6Z P T B0 w0 ext
theorem c0B:a0z P T vs (λ_=>none):=λ_ _ _ _=>⟨λ_ _ h=>zl,λ_ _ h=>zl⟩
def a4F (P:Program)(vs:a0E)(f:Nat)(args:List Value)(v:Value):Prop:=∀w,LaidV vs w->(callFunc f args.toArray).run P w=.ok (.enter f args.toArray) w/\Calls P f args.toArray w λe w'=>e=.returned v/\Below w.heap.size w w'
theorem J5 {f:Nat}{fn c args}(hPf:P.funcs[f]?=some fn)(hnum:(fn.name== "runtime.NumGoroutine")=false)(hb:fn.body=some c):(callFunc f args).run P w=.ok (.enter f args) w:=by simp_all[callFunc]
theorem b0O {K l}(h:A9 (C1 8) l=true):VRL K l l:=⟨rfl,λi v' v h1 h2=>by rw[h1]at h2;cases h2;exact T5 8 _ ((C9 _ _).1 h _ (we h1))⟩
theorem c1c (hT:TabOk P T)(hM:P.follows .mixedOrders=true)(hng:T.ng<=vs.length)(hp:∀l∈vs,∀v∈l,plain v=true){ext}(hE:a0z P T vs ext){n f}{fn}{c}{args}{v}{s'}(hPf:P.funcs[f]?=some fn)(hnum:(fn.name== "runtime.NumGoroutine")=false)(hb:fn.body=some c)(ha:A9 (C1 8) args=true)(hv:C1 8 v=true)(h:a4P P T ext n f args (a1e vs)=some (v,s')):a4F P vs f args v:=by intro w hL;have hE':=hE w.heap.size ⟨w,λ_=>True⟩ hL hL.size;refine⟨J5 hPf hnum hb,?_⟩;rcases b0F hT hM hE' n f args (a1e vs) v s' w (a4i vs) args h (a8y (λ_ _=>trivial) (λ_ _=>trivial) hL hp) (b0g hng) (λi hi _=>by rw[S4];have:vs.length<=i:=yY;rw[ww this]) (b0O ha)with⟨v',w',K',q1,_⟩|⟨_,q⟩;rw[J5 hPf hnum hb]at q1;cases q1;refine q.mono λe w' ⟨v',K',e1,st,r⟩=>?_;rw[e1,r.eq_of_noAddr 8 hv];exact⟨rfl,st.sim.below⟩
def a8f (ext:Nat->Option (List Value->M Value))(f:Nat)(tab:List Value->Option Value):Nat->Option (List Value->M Value):=λg=>match Nat.beq g f with|true=>some λargs=>M.lift (tab args)|false=>ext g
theorem a7t {ext}(hE:a0z P T vs ext){f tab}(ht:∀args v,tab args=some v->A9 (C1 8) args=true/\C1 8 v=true/\a4F P vs f args v):a0z P T vs (a8f ext f tab):=by
 intro B0 w0 hL hB;have h0:=hE B0 w0 hL hB;constructor;intro g m hm aS9;unfold a8f at hm;cases hb:Nat.beq g f with|true=>rw[hb]at hm;grind[Fr.lift]|false=>rw[hb]at hm;exact h0.1 g m hm aS9
 intro g m hm aS9 s v s' w K vs' h S hg F hvs;unfold a8f at hm;cases hb:Nat.beq g f with
  |true=>
   rw[hb]at hm;cases hm;obtain rfl:=xS hb;right;obtain⟨e1,e2⟩:=a1j h;obtain⟨t1,t2,t3⟩:=ht aS9 v e1;have hvv:vs'=aS9:=by
    apply wE;intro i;by_cases hi:i<aS9.length;have hi':i<vs'.length:=by rw[hvs.len];exact hi
    have r:=hvs.at_ i _ _ (xP hi') (xP hi);rw[xP hi',xP hi,r.eq_of_noAddr 8 ((C9 _ _).1 t1 aS9[i] (vo hi))];rw[ww (by rw[hvs.len];omega),ww zy]
   rw[hvv];obtain⟨c1,c2⟩:=t3 w (hL.below S.below hB);refine⟨c1,c2.mono λe w' ⟨q1,q2⟩=>⟨v,K,q1,⟨KM.le_refl K,λ_ _ _=>rfl,?_⟩,T5 8 v t2⟩⟩;subst e2;exact a4h S ⟨q2.os,q2.tape,q2.output,q2.size,q2.block⟩|false=>rw[hb]at hm;exact h0.2 g m hm aS9 s v s' w K vs' h S hg F hvs
end
end Go.V
end
section
namespace Go.V
open Go.RowKit (Below)
section
variable {P:Program}{T:Tab}{w:World}{vs:a0E}
theorem a3B (hT:TabOk P T)(hM:P.follows .mixedOrders=true)(hng:T.ng<=vs.length)(hp:∀l∈vs,∀v∈l,plain v=true){ext}(hE:a0z P T vs ext){N}{sh}(hs:a5S P T ext N sh){n f}{fn}{c}{args}{v}{s'}(hPf:P.funcs[f]?=some fn)(hnum:(fn.name== "runtime.NumGoroutine")=false)(hb:fn.body=some c)(ha:A9 (C1 8) args=true)(hv:C1 8 v=true)(h:j0 sh n f args (a1e vs)=some (.ret v,s')):a4F P vs f args v:=by intro w hL;have hE':=hE w.heap.size ⟨w,λ_=>True⟩ hL hL.size;refine⟨J5 hPf hnum hb,?_⟩;rcases a8B hT hM hE' hs n f args (a1e vs) (.ret v) s' w (a4i vs) args h (a8y (λ_ _=>trivial) (λ_ _=>trivial) hL hp) (b0g hng) (λi hi _=>by rw[S4];have:vs.length<=i:=yY;rw[ww this]) (b0O ha)with⟨v1,v',w',K',_,q1,_⟩|⟨_,q⟩;rw[J5 hPf hnum hb]at q1;cases q1;refine q.mono λe w' hq=>?_;obtain⟨v',K',e1,st,r⟩:=hq;rw[e1,r.eq_of_noAddr 8 hv];exact⟨rfl,st.sim.below⟩
end
end Go.V
end
