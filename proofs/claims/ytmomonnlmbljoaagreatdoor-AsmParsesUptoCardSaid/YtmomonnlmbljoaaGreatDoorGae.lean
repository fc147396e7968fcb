import Derived.Test.YtmomonnlmbljoaaGreatDoorGaa
import Derived.Test.YtmomonnlmbljoaaGreatDoorGad
set_option maxRecDepth 1000000
set_option maxHeartbeats 4000000
set_option linter.unusedVariables false
set_option linter.unusedSimpArgs false
section
namespace Go.V
open Go.RowKit (Below)
section
variable {P:Program}{T:Tab}{B0:Nat}{w0:Base}{w:World}{K:KM}{s s':S}{a:Act}{fr:List Value}{v:Value}
theorem a8U {β α}(l)(k:List β->α):fList l k=k l:=by induction l generalizing k with|nil=>rfl|cons x l ih=>exact ih _
theorem b3Y {x t}(r:VR K x (.bool t)):x=.bool t:=by generalize hv:Value.bool t=z at r;cases r<;>simp_all
theorem b3E.from {s1 w1 K1 ds ex fr' e a' w'}(h1:Step B0 w0 K s1 w1 K1)(hc:s1.c<=s'.c)(h:b3E B0 w0 K1 s' ds ex fr' e a' w'):b3E B0 w0 K s' ds ex fr' e a' w':=by obtain⟨K',st,r,d,q⟩:=h;exact⟨K',h1.trans st hc,r,d,q⟩
theorem c2n (hT:TabOk P T)(hM:P.follows .mixedOrders=true){call}(hC:a4O P T B0 w0 call)(hF:∀f vs,Fr (call f vs))(n):(∀c fr s ex fr' s' K a w Q,a6N P T call n c fr s=some ((ex,fr'),s')->Sim B0 w0 K s.h w->a0z K s s'->VRL K a.tmps.toList fr->GK T K->(∀e a' w',b3E B0 w0 K s' a.defers ex fr' e a' w'->Q e a' w')->c.wp P Q a w)/\(∀b fr s ex fr' s' K a w Q,a6N P T call n (.loop b) fr s=some ((ex,fr'),s')->Sim B0 w0 K s.h w->a0z K s s'->VRL K a.tmps.toList fr->GK T K->(∀e a' w',b3E B0 w0 K s' a.defers ex fr' e a' w'->Q e a' w')->Code.rounds P b Q n a w):=by
 induction n with
  |zero=>constructor;intro c fr s ex fr' s' K a w Q h;cases h;intro b fr s ex fr' s' K a w Q h;cases h|succ n ih=>
   obtain⟨ihA,ihB⟩:=ih;have hFe:∀c fr,Fr (a6N P T call n c fr):=Fr.exec P T hF n;have hB:∀b fr s ex fr' s' K a w Q,a6N P T call (n+1) (.loop b) fr s=some ((ex,fr'),s')->Sim B0 w0 K s.h w->a0z K s s'->VRL K a.tmps.toList fr->GK T K->(∀e a' w',b3E B0 w0 K s' a.defers ex fr' e a' w'->Q e a' w')->Code.rounds P b Q (n+1) a w:=by intro b fr s ex fr' s' K a w Q h S F hf hg hq;have h1:fList fr (λfr=>M.bind (a6N P T call n b fr) λr=>match r.1 with|.normal=>a6N P T call n (.loop b) r.2|.exit id=>M.pure (.exit id,r.2)|.ret=>M.pure (.ret,r.2)) s=some ((ex,fr'),s'):=h;rw[a8U]at h1;obtain⟨⟨x1,fr1⟩,s1,h2,h3⟩:=E8 h1;show b.wp P (Exit.then (Code.rounds P b Q n) Q) a w;cases x1 with|normal=>have h3:a6N P T call n (.loop b) fr1 s1=some ((ex,fr'),s'):=h3;have hle:=(hFe _ _).le h3;refine ihA b fr s .normal fr1 s1 K a w _ h2 S (F.left hle) hf hg λe a' w' L=>?_;obtain⟨K1,st,r1,d1,e1⟩:=L;have e1:e=.normal:=e1;subst e1;show Code.rounds P b Q n a' w';exact ihB b fr1 s1 ex fr' s' K1 a' w' Q h3 st.sim (F.right (hFe _ _) h2) r1 (hg.mono st.le) λe a2 w2 L=>hq e a2 w2 (b3E.from st hle (d1▸L))|exit id=>have h3:M.pure (Ex.exit id,fr1) s1=some ((ex,fr'),s'):=h3;obtain⟨e,rfl⟩:=y8 h3;cases e;refine ihA b fr s _ _ _ K a w _ h2 S F hf hg λe a' w' L=>?_;have he:e=.exit id:=L.choose_spec.2.2.2;subst he;exact hq _ _ _ L|ret=>have h3:M.pure (Ex.ret,fr1) s1=some ((ex,fr'),s'):=h3;obtain⟨e,rfl⟩:=y8 h3;cases e;refine ihA b fr s _ _ _ K a w _ h2 S F hf hg λe a' w' L=>?_;have he:e=.ret:=L.choose_spec.2.2.2;subst he;exact hq _ _ _ L
   refine⟨λc fr s ex fr' s' K a w Q h S F hf hg hq=>?_,hB⟩;have h0:c6k P T call (a6N P T call n) c fr s=some ((ex,fr'),s'):=h;cases c with
    |skip=>have h0:M.pure (Ex.normal,fr) s=some ((ex,fr'),s'):=h0;obtain⟨e,rfl⟩:=y8 h0;cases e;exact wp_skip (hq _ _ _ ⟨K,Step.same S rfl,hf,rfl,rfl⟩)|region id ops draw=>have h0:region P T call ops.toList draw fr s=some ((ex,fr'),s'):=h0;cases draw with|false=>have h0:M.bind (a6a P T call ops.toList ops.toList fr) (λfr'=>M.pure (Ex.normal,fr')) s=some ((ex,fr'),s'):=h0;obtain⟨fr1,s1,h1,h2⟩:=E8 h0;obtain⟨e,rfl⟩:=y8 h2;cases e;refine wp_region ?_;rw[rM];exact c9M hT hC hF ops ops.size 0 fr _ s _ K a w zn zu S F hf hg λa' w' K' st r d=>hq _ _ _ ⟨K',st,r,d,rfl⟩|true=>have h0:M.bind (a2t P T call ops.toList ops.toList fr) (λy=>M.guard (a2P ops.toList (a4x ops.toList y.2) [] [] 0)<|M.pure (Ex.normal,y.1)) s=some ((ex,fr'),s'):=h0;obtain⟨⟨fr1,feet⟩,s1,h1,h2⟩:=E8 h0;obtain⟨hok,h3⟩:=I4 h2;obtain⟨e,rfl⟩:=y8 h3;cases e;exact b4R hT hM hC hF ops h1 hok S F hf hg λa' w' K' st r d=>hq _ _ _ ⟨K',st,r,d,rfl⟩
    |seq x y=>have h0:M.bind (a6N P T call n x fr) (λr=>match r.1 with|.normal=>a6N P T call n y r.2|.exit id=>M.pure (.exit id,r.2)|.ret=>M.pure (.ret,r.2)) s=some ((ex,fr'),s'):=h0;obtain⟨⟨x1,fr1⟩,s1,h2,h3⟩:=E8 h0;refine wp_seq ?_;cases x1 with|normal=>have h3:a6N P T call n y fr1 s1=some ((ex,fr'),s'):=h3;have hle:=(hFe _ _).le h3;refine ihA x fr s .normal fr1 s1 K a w _ h2 S (F.left hle) hf hg λe a' w' L=>?_;obtain⟨K1,st,r1,d1,e1⟩:=L;have e1:e=.normal:=e1;subst e1;exact ihA y fr1 s1 ex fr' s' K1 a' w' Q h3 st.sim (F.right (hFe _ _) h2) r1 (hg.mono st.le) λe a2 w2 L=>hq e a2 w2 (b3E.from st hle (d1▸L))|exit id=>have h3:M.pure (Ex.exit id,fr1) s1=some ((ex,fr'),s'):=h3;obtain⟨e,rfl⟩:=y8 h3;cases e;refine ihA x fr s _ _ _ K a w _ h2 S F hf hg λe a' w' L=>?_;have he:e=.exit id:=L.choose_spec.2.2.2;subst he;exact hq _ _ _ L|ret=>have h3:M.pure (Ex.ret,fr1) s1=some ((ex,fr'),s'):=h3;obtain⟨e,rfl⟩:=y8 h3;cases e;refine ihA x fr s _ _ _ K a w _ h2 S F hf hg λe a' w' L=>?_;have he:e=.ret:=L.choose_spec.2.2.2;subst he;exact hq _ _ _ L
    |cond x c1 c2=>
     have h0:M.obind (Y0 T fr x) (λv=>match v with
      |.bool t=>match t with|true=>a6N P T call n c1 fr|false=>a6N P T call n c2 fr
      |_=>M.fail) s=some ((ex,fr'),s'):=h0;obtain⟨u,e1,h1⟩:=H9 h0;have r:=O7 hf hg e1;cases u with
      |bool t=>have hb:=b3Y r;cases t<;>first|rfl|grind[wp_cond_true,wp_cond_false]
      |_=>cases h1
    |block id b=>
     have h0:M.bind (a6N P T call n b fr) (λr=>match r.1 with
      |.normal=>M.pure (.normal,r.2)|.exit id'=>match Nat.beq id' id with|true=>M.pure (.normal,r.2)|false=>M.pure (.exit id',r.2)
      |.ret=>M.pure (.ret,r.2)) s=some ((ex,fr'),s'):=h0;obtain⟨⟨x1,fr1⟩,s1,h2,h3⟩:=E8 h0;refine wp_block ?_;cases x1 with
      |normal=>have h3:M.pure (Ex.normal,fr1) s1=some ((ex,fr'),s'):=h3;obtain⟨e,rfl⟩:=y8 h3;cases e;refine ihA b fr s _ _ _ K a w _ h2 S F hf hg λe a' w' L=>?_;have he:e=.normal:=L.choose_spec.2.2.2;subst he;exact hq _ _ _ L|exit id'=>have h3:(match Nat.beq id' id with|true=>M.pure (Ex.normal,fr1)|false=>M.pure (Ex.exit id',fr1)) s1=some ((ex,fr'),s'):=h3;cases hb:Nat.beq id' id with|true=>rw[hb]at h3;obtain⟨e,rfl⟩:=y8 h3;cases e;refine ihA b fr s _ _ _ K a w _ h2 S F hf hg λe a' w' L=>?_;obtain⟨K1,st,r1,d1,e1⟩:=L;have e1:e=.exit id':=e1;subst e1;show(if id'=id then Q .normal a' w' else Q (.exit id') a' w');rw[vX (wo hb)];exact hq _ _ _ ⟨K1,st,r1,d1,rfl⟩|false=>rw[hb]at h3;obtain⟨e,rfl⟩:=y8 h3;cases e;refine ihA b fr s _ _ _ K a w _ h2 S F hf hg λe a' w' L=>?_;have he:e=.exit id':=L.choose_spec.2.2.2;subst he;show(if id'=id then Q .normal a' w' else Q (.exit id') a' w');rw[vg (λq=>zm)];simp_all
      |ret=>have h3:M.pure (Ex.ret,fr1) s1=some ((ex,fr'),s'):=h3;obtain⟨e,rfl⟩:=y8 h3;cases e;refine ihA b fr s _ _ _ K a w _ h2 S F hf hg λe a' w' L=>?_;have he:e=.ret:=L.choose_spec.2.2.2;subst he;exact hq _ _ _ L
    |loop b=>exact pJ (n+1) (hB b fr s ex fr' s' K a w Q h S F hf hg hq)|exit id=>have h0:M.pure (Ex.exit id,fr) s=some ((ex,fr'),s'):=h0;obtain⟨e,rfl⟩:=y8 h0;cases e;exact wp_exit (hq _ _ _ ⟨K,Step.same S rfl,hf,rfl,rfl⟩)|ret=>have h0:M.pure (Ex.ret,fr) s=some ((ex,fr'),s'):=h0;obtain⟨e,rfl⟩:=y8 h0;cases e;exact wp_ret (hq _ _ _ ⟨K,Step.same S rfl,hf,rfl,rfl⟩)|_=>cases h0
def c0p (tmps:Array Value):ResultVar->Sem Value|.tmp t=>pure (tmps.getD t undef)|.cell a t=>do loadVar t (<-asAddr (tmps.getD a undef))
theorem c1g (hT:TabOk P T){tmps}(hf:VRL K tmps.toList fr):∀(rs) (vs) (s s'),a3H T fr rs s=some (vs,s')->Sim B0 w0 K s.h w->s'.h=s.h/\s'.c=s.c/\∃vs',(rs.mapM (c0p tmps)).run P w=.ok vs' w/\VRL K vs' vs:=by
 have hget:∀t,VR K (tmps.getD t undef) (C8 fr t):=by intro t;have r:=hf.lget t;rw[a4f tmps.toList,a7G]at r;rw[sU];exact r
 intro rs;induction rs with
  |nil=>intro vs s s' h S;have h:M.pure ([]:List Value) s=some (vs,s'):=h;obtain⟨e,rfl⟩:=y8 h;cases e;exact⟨rfl,rfl,[],rfl,⟨rfl,λi v' v q=>by simp at q⟩⟩|cons r rs ih=>
   intro vs s s' h S;have cons:∀{x' x:Value} {ys' ys:List Value},VR K x' x->VRL K ys' ys->VRL K (x'::ys') (x::ys):=by intro x' x ys' ys r1 r2;refine⟨by simp[r2.len],λi v' v h1 h2=>?_⟩;cases i with|zero=>simp_all|succ i=>exact r2.at_ i v' v zu zu
   cases r with|tmp t=>have h:M.bind (a3H T fr rs) (λvs=>M.pure (C8 fr t::vs)) s=some (vs,s'):=h;obtain⟨ys,s1,h1,h2⟩:=E8 h;obtain⟨e,rfl⟩:=y8 h2;grind[c0p,Sem.run_bind,Sem.run_pure,Result.andThen_ok]|cell ad t=>have h:a0G (C8 fr ad) (λad=>M.bind (a4E T t ad) λv=>M.bind (a3H T fr rs) λvs=>M.pure (v::vs)) s=some (vs,s'):=h;obtain⟨adr,e0,h⟩:=a2R h;obtain⟨u,s1,h1,h2⟩:=E8 h;obtain⟨ys,s2,h3,h4⟩:=E8 h2;obtain⟨e,rfl⟩:=y8 h4;cases e;have r0:=hget ad;rw[e0]at r0;obtain⟨ad',e1,r1⟩:=a9j r0;obtain⟨u',p1,p2,p3,p4⟩:=b8Q hT h1 S r1;obtain⟨q1,q2,vs',q3,q4⟩:=ih ys _ _ h3 (by rw[p3];exact S);simp_all[c0p,asAddr]
theorem b6x (hT:TabOk P T){fn ex fr' tmps}(h:b1l T fn (ex,fr') s=some (v,s'))(hf:VRL K tmps.toList fr')(S:Sim B0 w0 K s.h w):(∀id,ex≠.exit id)/\s'.h=s.h/\s'.c=s.c/\∃v',(results fn tmps).run P w=.ok v' w/\VR K v' v:=by
 have key:∀h:M.bind (a3H T fr' fn.results.toList) (λvs=>M.pure (a7E vs)) s=some (v,s'),s'.h=s.h/\s'.c=s.c/\∃v',(results fn tmps).run P w=.ok v' w/\VR K v' v:=by intro h;obtain⟨vs,s1,h1,h2⟩:=E8 h;obtain⟨e,rfl⟩:=y8 h2;cases e;obtain⟨q1,q2,vs',q3,q4⟩:=c1g hT hf _ _ _ _ h1 S;refine⟨q1,q2,(if h:vs'.toArray.size=1 then vs'.toArray[0]else .tuple vs'.toArray),?_,?_⟩;show(do let vs<-fn.results.mapM (c0p tmps);pure (if h:vs.size=1 then vs[0]else .tuple vs):Sem Value).run P w=_;rw[Array.mapM_eq_mapM_toList];simp_all;match vs,vs',q4 with|[],[],_=>exact .tuple rfl (λi v' v q=>by simp at q)|[x],[x'],q4=>exact q4.at_ 0 x' x rfl rfl|x::y::l,x'::y'::l',q4=>exact .tuple q4.len q4.at_|[],_::_,q4=>exact absurd q4.len zn|_::_,[],q4=>exact absurd q4.len zn|[_],_::_::_,q4=>exact absurd q4.len zn|_::_::_,[_],q4=>exact absurd q4.len zn
 cases ex with|exit id=>cases h|normal=>exact⟨λ_ q=>zb,key h⟩|ret=>exact⟨λ_ q=>zb,key h⟩
def b9R (P:Program)(T:Tab)(B0:Nat)(w0:Base)(ext:Nat->Option (List Value->M Value)):Prop:=(∀f g,ext f=some g->∀vs,Fr (g vs))/\(∀f g,ext f=some g->∀vs s v s' w K vs',g vs s=some (v,s')->Sim B0 w0 K s.h w->GK T K->a0z K s s'->VRL K vs' vs->(∃v' w' K',(callFunc f vs'.toArray).run P w=.ok (.value v') w'/\Step B0 w0 K s' w' K'/\VR K' v' v)\/((callFunc f vs'.toArray).run P w=.ok (.enter f vs'.toArray) w/\Calls P f vs'.toArray w λe w'=>∃v' K',e=.returned v'/\Step B0 w0 K s' w' K'/\VR K' v' v))
theorem b3p (n):a0t n=List.replicate n undef:=by induction n<;>first|rfl|grind[a0t]
theorem VRL.replicate (n):VRL K (List.replicate n undef) (List.replicate n undef):=⟨zn,λi v' v h1 h2=>by rw[List.getElem?_replicate]at h1 h2;by_cases hi:i<n;rw[vX hi]at h1 h2;grind[VR.undef];simp_all⟩
theorem b3w (hT:TabOk P T)(hM:P.follows .mixedOrders=true){ext}(hE:b9R P T B0 w0 ext)(n):a4O P T B0 w0 (a7c P T ext n):=by
 induction n with
  |zero=>intro f vs s v s' w K vs' h;cases h|succ n ih=>
   intro f vs s v s' w K vs' h S hg F hvs;have h0:(match ext f with|some g=>g vs|none=>M.obind (T.funcs.get f) λfn=>enter P T (a7c P T ext n) n fn f vs) s=some (v,s'):=h;have hFc:=Fr.callV P T hE.1 n;cases hx:ext f with
    |some g=>rw[hx]at h0;exact hE.2 f g hx vs s v s' w K vs' h0 S hg F hvs|none=>
     rw[hx]at h0;obtain⟨fn,hfn,h1⟩:=H9 h0;obtain⟨hPf,hnum⟩:=hT.funcs f fn hfn;unfold enter at h1;cases hb:fn.body with
      |none=>
       left;rw[hb]at h1;obtain⟨hpl,h2⟩:=I4 h1;obtain⟨x,hx1,h3⟩:=H9 h2;obtain⟨u,hu,h4⟩:=H9 h3;obtain⟨hna,h5⟩:=I4 h4;have hxv:x=.value u:=by cases x<;>first|(cases hu;rfl)|cases hu
       subst hxv;obtain⟨e,rfl⟩:=y8 h5;subst e;have hvv:vs'=vs:=by
        apply vK;intro i;by_cases hi:i<vs.length;have hi':i<vs'.length:=by rw[hvs.len];exact hi
        have r:=hvs.at_ i _ _ (wz hi') (wz hi);rw[wz hi',wz hi];have hp:=(R5 _ _).1 hpl vs[i] (vB hi);rw[r.eq_of_plain hp];rw[wT (by rw[hvs.len];omega),wT zy]
       rw[hvv];exact⟨_,w,K,a6S hx1 w,Step.same S rfl,a0S _ _ hna⟩|some c=>
       right;rw[hb]at h1;obtain⟨⟨ex,fr1⟩,s1,h2,h3⟩:=E8 h1;have hle:s1.c<=s'.c:=by
        have:Fr (b1l T fn (ex,fr1)):=by grind[b1l,Fr.fail,Fr.bind,Fr.resultsV,Fr.pure]
        exact this.le h3
       refine⟨?_,?_⟩;simp_all[callFunc];refine calls_of_wp hPf hb ?_;rw[V7,J2,b3p]at h2;refine(c2n hT hM ih hFc n).1 c _ s ex fr1 s1 K _ w _ h2 S (F.left hle) ?_ hg λe a' w' L=>?_;show VRL K (vs'.toArray++Array.replicate (fn.ntmps-vs'.toArray.size) undef).toList (vs++List.replicate (fn.ntmps-vs.length) undef);simp only[tO,tC,tq,hvs.len];exact hvs.append (VRL.replicate _);obtain⟨K1,st,r1,d1,e1⟩:=L;obtain⟨f1,f2,f3,v',f4,f5⟩:=b6x hT h3 r1 st.sim;have st2:Step B0 w0 K s' w' K1:=⟨st.le,λi g hi=>st.far i g zy,by rw[f2];exact st.sim⟩;cases ex with|exit id=>simp_all|normal=>have e1:e=.normal:=e1;subst e1;exact⟨d1,v',f4,v',K1,rfl,st2,f5⟩|ret=>have e1:e=.ret:=e1;subst e1;exact⟨d1,v',f4,v',K1,rfl,st2,f5⟩
end
end Go.V
end
section
namespace Go.V
open Go.RowKit (Below)
section
variable {p:Program}{T:Tab}{call:I5}
theorem Fr.condM {β:Type}(v:Value){x y:M β}(hx:Fr x)(hy:Fr y):Fr (a5P v x y):=by
 cases v with
  |bool b=>cases b with|true=>exact hx|false=>exact hy
  |_=>exact Fr.fail
theorem Fr.crCase {β:Type}(r:CR){kn kp:Value->M β}(h1:∀v,Fr (kn v))(h2:∀v,Fr (kp v)):Fr (a1w r kn kp):=by cases r with|ret v=>exact h1 v|pan v=>exact h2 v
theorem Fr.xcase {β:Type}(x:Xc){a:M β}{b:Nat->M β}{c:M β}{d:Value->M β}(h1:Fr a)(h2:∀i,Fr (b i))(h3:Fr c)(h4:∀v,Fr (d v)):Fr (X3 x a b c d):=by cases x with|normal=>exact h1|exit i=>exact h2 i|ret=>exact h3|pan v=>exact h4 v
theorem Fr.okCall (hc:∀f vs,Fr (call f vs))(f:Nat)(vs:List Value):Fr (a1M call f vs):=Fr.bind (hc f vs) λr=>Fr.crCase r (λ_=>Fr.pure _) (λ_=>Fr.fail)
theorem Fr.noCall (f:Nat)(vs:List Value):Fr (c2L f vs):=Fr.fail
theorem d0k {β fr o}{kn kp:Value->M β}{s r}(h:a3T p T o9 call fr o kn kp s=some r):(∃v s1,Z8 p T c2L fr o s=some (v,s1)/\kn v s1=some r)\/(∃c f ga cr s1,o=.call c/\c.callee=.value f/\a4Q T fr f c.args.toList=some ga/\call ga.1 ga.2 s=some (cr,s1)/\a1w cr kn kp s1=some r)\/(∃x v,o=.panic x/\Y0 T fr x=some v/\a5e v=true/\kp v s=some r):=by
 have hs:∀m:M Value,o9.bv β m kn s=some r->∃v s1,m s=some (v,s1)/\kn v s1=some r:=λm q=>by obtain⟨v,s1,q1,q2⟩:=E8 (s2:=r.2) (b:=r.1) (f:=kn) q;grind
 have ho:∀x:Option Value,M.obind x kn s=some r->∃v s1,M.lift x s=some (v,s1)/\kn v s1=some r:=λx q=>by cases x with|none=>cases q|some v=>exact⟨v,s,rfl,q⟩
 cases o with
  |move x=>exact Or.inl (ho _ h)|assign x=>exact Or.inl (ho _ h)|call c=>obtain⟨cal,args,ts⟩:=c;cases cal with|value f=>obtain⟨ga,q0,q⟩:=H9 (s2:=r.2) (b:=r.1) h;obtain⟨cr,s1,q1,q2⟩:=E8 (f:=λr=>a1w r kn kp) q;grind|builtin b=>exact Or.inl (hs _ h)|invoke r m=>cases h
  |panic x=>obtain⟨v,q0,q⟩:=H9 (s2:=r.2) (b:=r.1) h;obtain⟨q1,q2⟩:=I4 q;simp_all|_=>exact Or.inl (hs _ h)
theorem Fr.stepK {β:Type}(hc:∀f vs,Fr (call f vs))(fr:List Value)(o:Op){kn kp:Value->M β}(h1:∀v,Fr (kn v))(h2:∀v,Fr (kp v)):Fr (a3T p T o9 call fr o kn kp):=by
 have hs:∀m:M Value,Fr m->Fr (o9.bv β m kn):=λm hm=>Fr.bind hm h1;cases o with
  |move x=>exact Fr.obind _ h1|assign x=>exact Fr.obind _ h1|call c=>obtain⟨cal,args,ts⟩:=c;cases cal with|value f=>exact Fr.obind _ λga=>Fr.bind (hc _ _) λr=>Fr.crCase r h1 h2|builtin b=>exact hs _ (Fr.opBuiltin p T _ _ _ _)|invoke r m=>exact Fr.fail
  |panic x=>exact Fr.obind _ λv=>Fr.guard _ (h2 v)|_=>exact hs _ (Fr.simpleOp p T _ _)
theorem Fr.runC (hc:∀f vs,Fr (call f vs))(ops os:List Oper):∀fr,Fr (a4V p T call ops os fr):=by induction os with|nil=>intro fr;exact Fr.pure _|cons o os ih=>grind[a4T,Fr.stepK,Fr.pure]
theorem Fr.regionC (hc:∀f vs,Fr (call f vs))(ops:List Oper)(draw:Bool)(fr:List Value):Fr (b4h p T call ops draw fr):=by cases draw with|false=>exact Fr.runC hc _ _ _|true=>show Fr (M.bind (V.a2t p T (V.a1M call) ops ops fr) λy=>M.guard (a2P ops (a4x ops y.2) [] [] 0)<|M.pure (Xc.normal,y.1));grind[Fr.bind,Fr.runD,Fr.okCall,Fr.guard,Fr.pure]
theorem Fr.loopN {σ:Type}{body:σ->M (Xc×σ)}(h:∀x,Fr (body x))(n:Nat):∀x,Fr (Q5 body n x):=by induction n with|zero=>intro x;exact Fr.fail|succ n ih=>grind[Z6,Fr.bind,Fr.xcase,Fr.pure]
theorem Fr.execC (hc:∀f vs,Fr (call f vs))(N:Nat):∀c fr,Fr (a0w p T N call c fr):=by intro c;induction c with|skip=>intro fr;exact Fr.pure _|region id ops draw=>intro fr;exact Fr.regionC hc _ _ _|seq a b iha ihb=>intro fr;exact Fr.bind (iha fr) λr=>Fr.xcase r.1 (ihb _) (λ_=>Fr.pure _) (Fr.pure _) (λ_=>Fr.pure _)|cond x a b iha ihb=>intro fr;exact Fr.obind _ λv=>Fr.condM v (iha fr) (ihb fr)|block id b ih=>intro fr;exact Fr.bind (ih fr) λr=>Fr.pure _|loop b ih=>intro fr;exact Fr.loopN ih N fr|exit id=>intro fr;exact Fr.pure _|ret=>intro fr;exact Fr.pure _|_=>intro fr;exact Fr.fail
theorem Fr.resK {β:Type}(fr:List Value)(rs:List ResultVar):∀{k:List Value->M β},(∀vs,Fr (k vs))->Fr (a3L T o9 fr rs k):=by induction rs with|nil=>intro k h;exact h []|cons r rs ih=>intro k h;cases r with|tmp t=>exact ih λvs=>h _|cell a t=>exact Fr.asPtr _ λad=>Fr.bind (Fr.loadV T _ _) λv=>ih λvs=>h _
theorem Fr.finK (fn:Func)(ex:Xc)(fr:List Value):Fr (c1k T o9 fn ex fr):=Fr.xcase ex (Fr.resK _ _ λ_=>Fr.pure _) (λ_=>Fr.fail) (Fr.resK _ _ λ_=>Fr.pure _) (λ_=>Fr.pure _)
theorem Fr.enterC (hc:∀f vs,Fr (call f vs))(N:Nat)(fn:Func)(f:Nat)(args:List Value):Fr (a6R p T N call fn f args):=by grind[V.a6R,Fr.bind,Fr.externV,Fr.pure,Fr.execC,Fr.finK]
theorem Fr.callC {ext:Nat->Option (List Value->M Value)}(he:∀f g,ext f=some g->∀vs,Fr (g vs))(N n:Nat):∀f vs,Fr (b6U p T ext N n f vs):=by induction n with|zero=>intro f vs;exact Fr.fail|succ n ih=>intro f vs;show Fr (match ext f with|some g=>M.bind (g vs) λv=>M.pure (CR.ret v)|none=>M.obind (T.funcs.get f) λfn=>V.a6R p T N (V.b6U p T ext N n) fn f vs);cases hx:ext f with|some g=>exact Fr.bind (he f g hx vs) λ_=>Fr.pure _|none=>grind[Fr.obind,Fr.enterC]
end
section
variable {P:Program}{T:Tab}{B0:Nat}{w0:Base}{w:World}{K:KM}{s s':S}{a:Act}{fr:List Value}{v:Value}{call:I5}
def d1Z (v:Value):List PanicEntry:=[{v:=v,recovered:=false}]
def e2M (B0:Nat)(w0:Base)(K:KM)(s':S)(r:CR)(e:Ending)(w':World):Prop:=match r with|.ret v=>∃v' K',e=.returned v'/\Step B0 w0 K s' w' K'/\VR K' v' v|.pan v=>∃v' K',e=.panicked (d1Z v')/\Step B0 w0 K s' w' K'/\VR K' v' v
def a8D (P:Program)(T:Tab)(B0:Nat)(w0:Base)(call:I5):Prop:=∀f vs s r s' w K vs',call f vs s=some (r,s')->Sim B0 w0 K s.h w->GK T K->a0z K s s'->VRL K vs' vs->(∃v v' w' K',r=.ret v/\(callFunc f vs'.toArray).run P w=.ok (.value v') w'/\Step B0 w0 K s' w' K'/\VR K' v' v)\/((callFunc f vs'.toArray).run P w=.ok (.enter f vs'.toArray) w/\Calls P f vs'.toArray w (e2M B0 w0 K s' r))
theorem c5S (hC:a8D P T B0 w0 call):a4O P T B0 w0 (a1M call):=by intro f vs s v s' w K vs' h S hg F hv;obtain⟨r,s1,h1,h2⟩:=E8 h;cases r with|pan u=>cases h2|ret u=>obtain⟨rfl,rfl⟩:=y8 h2;rcases hC f vs s _ _ w K vs' h1 S hg F hv with⟨x,v',w',K',e,q1,q2,q3⟩|⟨q1,q2⟩;grind;exact Or.inr ⟨q1,q2⟩
theorem c6d:a4O P T B0 w0 c2L:=λ_ _ _ _ _ _ _ _ h=>zZ
def exC (K':KM):Xc->Exit->Prop|.normal,e=>e=.normal|.exit id,e=>e=.exit id|.ret,e=>e=.ret|.pan v,e=>∃v',e=.panic (d1Z v')/\VR K' v' v
def a7X (B0:Nat)(w0:Base)(K:KM)(s':S)(ds:List Deferred)(ex:Xc)(fr':List Value):Exit->Act->World->Prop:=λe a' w'=>∃K',Step B0 w0 K s' w' K'/\VRL K' a'.tmps.toList fr'/\a'.defers=ds/\exC K' ex e
theorem a7X.from {s1 w1 K1 ds ex fr' e a' w'}(h1:Step B0 w0 K s1 w1 K1)(hc:s1.c<=s'.c)(h:a7X B0 w0 K1 s' ds ex fr' e a' w'):a7X B0 w0 K s' ds ex fr' e a' w':=by obtain⟨K',st,r,d,q⟩:=h;exact⟨K',h1.trans st hc,r,d,q⟩
theorem c4q {f args ga}(h:a4Q T fr f args=some ga):∃first captured vs,Y0 T fr f=some (.func (.func ga.1) first captured)/\a0P T fr args=some vs/\ga.2=first.toList++(vs++captured.toList):=by
 unfold a4Q at h;cases h1:Y0 T fr f with
  |none=>rw[h1]at h;cases h|some v=>
   rw[h1]at h;cases h2:a0P T fr args with
    |none=>rw[h2]at h;cases h|some vs=>
     rw[h2]at h;cases v with
      |func fn first captured=>cases fn with|func g=>cases h;exact⟨first,captured,vs,rfl,rfl,by simp only[V7]⟩|_=>cases h
      |_=>cases h
theorem d2p (hT:TabOk P T)(hC:a8D P T B0 w0 call)(hF:∀f vs,Fr (call f vs)){β}{o:Oper}{kn kp:Value->M β}{r}(h:a3T P T o9 call fr o.op kn kp s=some r)(S:Sim B0 w0 K s.h w)(F:∀s1,s1.c<=r.2.c->a0z K s s1)(hkn:∀v,Fr (kn v))(hkp:∀v,Fr (kp v))(hf:VRL K a.tmps.toList fr)(hg:GK T K){next}{Q}(hn:∀v s1 v' w' K',kn v s1=some r->Step B0 w0 K s1 w' K'->(∀K2,a0z K2 s1 r.2)->s1.c<=r.2.c->VR K' v' v->next (a.put o.dst v') w')(hp:∀v s1 v' w' K',kp v s1=some r->Step B0 w0 K s1 w' K'->(∀K2,a0z K2 s1 r.2)->s1.c<=r.2.c->VR K' v' v->Q (.panic (d1Z v')) a w'):o.wp P a w next Q:=by
 have Fall:∀s1,s1.c<=r.2.c->a0z K s s1:=F;rcases d0k h with⟨v,s1,h1,h2⟩|⟨c,f,ga,cr,s1,e1,e2,e3,e4,e5⟩|⟨x,v,e1,e2,e3,e4⟩;have hle:=(hkn v).le h2;refine b0G hT c6d h1 S (Fall _ hle) hf hg λv' w' K' st rr=>?_;exact hn v s1 v' w' K' h2 st (λK2=>a0z.right (F _ (xD _)) (Fr.stepOp P T Fr.noCall _ _) h1) hle rr;have hfr:Fr (a1w cr kn kp):=Fr.crCase cr hkn hkp;have hle:=hfr.le e5;have hfree:∀K2,a0z K2 s1 r.2:=λK2=>a0z.right (F _ (xD _)) (hF _ _) e4;obtain⟨first,captured,vs,q1,q2,q3⟩:=c4q e3;have rf:=O7 hf hg q1;have rs:=a6i hf hg q2;obtain⟨f1,c1,ef,rf1,rc1⟩:=b7D rf;have rargs:VRL K (f1.toList++(c.args.toList.map a.eval++c1.toList)) ga.2:=by rw[q3];exact rf1.append (rs.append rc1)
 have e:execOp a.eval o=callFunc ga.1 (f1.toList++(c.args.toList.map a.eval++c1.toList)).toArray:=by unfold execOp;rw[e1];show(do let d<-resolve a.eval c o.type;invoke d.target d.args)=_;unfold resolve;rw[e2];show(do let d<-Deferred.ofValue (a.eval f) (c.args.map a.eval);invoke d.target d.args)=_;rw[ef];show callFunc ga.1 (f1++c.args.map a.eval++c1)=_;congr 1;simp_all
 unfold Oper.wp;rw[e];rcases hC ga.1 ga.2 s cr s1 w K _ e4 S hg (Fall _ hle) rargs with⟨u,v',w',K',r1,r2,r3,r4⟩|⟨r1,r2⟩;subst r1;rw[r2];exact hn u s1 v' w' K' e5 r3 hfree hle r4;rw[r1];refine r2.mono λen w' hq=>?_;cases cr with|ret u=>obtain⟨v',K',rfl,t1,t2⟩:=hq;exact hn u s1 v' w' K' e5 t1 hfree hle t2|pan u=>obtain⟨v',K',rfl,t1,t2⟩:=hq;exact hp u s1 v' w' K' e5 t1 hfree hle t2
 have rx:=O7 hf hg e2;have hv:∃t y y',v=.iface t y/\a.eval x=.iface t y':=by cases v with|iface t y=>generalize hz:Value.iface t y=z at rx;generalize hu:a.eval x=u at rx;cases rx<;>grind|_=>cases e3
 obtain⟨t,y,y',rfl,ey⟩:=hv;unfold Oper.wp;have e:(execOp a.eval o).run P w=.halt (.panic (.iface t y')) w:=by simp_all[execOp,Instr.panic]
 rw[e];rw[ey]at rx;exact hp _ s _ w K e4 (Step.same S rfl) (λK2=>λi hi hi2=>F _ (xD _) i hi hi2) ((hkp _).le e4) rx
theorem d7d (hT:TabOk P T)(hC:a8D P T B0 w0 call)(hF:∀f vs,Fr (call f vs))(ops){Q}:∀(n k) (fr) (x) (s s') (K) (a) (w),k+n=ops.size->a4V P T call ops.toList (ops.toList.drop k) fr s=some (x,s')->Sim B0 w0 K s.h w->a0z K s s'->VRL K a.tmps.toList fr->GK T K->(∀e a' w',a7X B0 w0 K s' a.defers x.1 x.2 e a' w'->Q e a' w')->wpOps P ops Q (List.range' k n) a w:=by intro n;induction n with|zero=>intro k fr x s s' K a w hk h S F hf hg hq;have:ops.toList.drop k=[]:=rY zg;rw[this]at h;obtain⟨rfl,rfl⟩:=y8 h;exact hq _ a w ⟨K,Step.same S rfl,hf,rfl,rfl⟩|succ n ih=>intro k fr x s s' K a w hk h S F hf hg hq;have hlt:k<ops.size:=zy;have hd:ops.toList.drop k=ops[k]::ops.toList.drop (k+1):=xq;rw[hd,a4T]at h;rw[rV];simp only[wpOps,tZ hlt];rw[a9I ops a.tmps hf];cases hw:a1T ops.toList fr ops[k]with|true=>rw[hw]at h;simp only[rQ]at h⊢;left;refine d2p hT hC hF h S (λs1 h1=>F.left h1) (λv=>Fr.runC hF _ _ _) (λv=>Fr.pure _) hf hg (λv s1 v' w' K' h2 st fre hle r=>?_) (λv s1 v' w' K' h2 st fre hle r=>?_);refine ih (k+1) _ x s1 s' K' _ w' zy h2 st.sim (fre K') (a8y (hf.mono st.le) _ r) (hg.mono st.le) λe a2 w2 L=>?_;rw[a2J]at L;grind[a7X.from];obtain⟨rfl,rfl⟩:=y8 h2;exact hq _ a w' ⟨K',st,hf.mono st.le,rfl,v',rfl,r⟩|false=>rw[hw]at h;simp only[vS,uS]at h⊢;refine ih (k+1) _ x s s' K _ w zy h S F (a8y hf _ (VR.undef K)) hg λe a2 w2 L=>?_;rw[a2J]at L;simp_all
theorem a7X.cases {K ds x fr' e a' w'}(hx:x≠.normal)(h:a7X B0 w0 K s' ds x fr' e a' w'):e≠.normal:=by obtain⟨K',_,_,_,q⟩:=h;cases x with|normal=>simp_all|exit id=>intro e';subst e';cases q|ret=>intro e';subst e';cases q|pan v=>obtain⟨v',rfl,_⟩:=q;simp_all
theorem b7b {next Q e a w}(he:e≠.normal)(h:Q e a w):Exit.then next Q e a w:=by cases e with|normal=>simp_all|_=>exact h
theorem c8S (hT:TabOk P T)(hM:P.follows .mixedOrders=true)(hC:a8D P T B0 w0 call)(hF:∀f vs,Fr (call f vs))(N):∀c fr s x s' K a w Q,a0w P T N call c fr s=some (x,s')->Sim B0 w0 K s.h w->a0z K s s'->VRL K a.tmps.toList fr->GK T K->(∀e a' w',a7X B0 w0 K s' a.defers x.1 x.2 e a' w'->Q e a' w')->c.wp P Q a w:=by
 have hFe:∀c fr,Fr (a0w P T N call c fr):=Fr.execC hF N;intro c;induction c with
  |skip=>intro fr s x s' K a w Q h S F hf hg hq;obtain⟨rfl,rfl⟩:=y8 h;exact wp_skip (hq _ _ _ ⟨K,Step.same S rfl,hf,rfl,rfl⟩)|region id ops draw=>intro fr s x s' K a w Q h S F hf hg hq;cases draw with|false=>have h:a4V P T call ops.toList ops.toList fr s=some (x,s'):=h;refine wp_region ?_;rw[rM];exact d7d hT hC hF ops ops.size 0 fr x s s' K a w zn zu S F hf hg hq|true=>have h:M.bind (a2t P T (a1M call) ops.toList ops.toList fr) (λy=>M.guard (a2P ops.toList (a4x ops.toList y.2) [] [] 0)<|M.pure (Xc.normal,y.1)) s=some (x,s'):=h;obtain⟨⟨fr1,feet⟩,s1,h1,h2⟩:=E8 h;obtain⟨hok,h3⟩:=I4 h2;obtain⟨rfl,rfl⟩:=y8 h3;exact b4R hT hM (c5S hC) (Fr.okCall hF) ops h1 hok S F hf hg λa' w' K' st r d=>hq _ _ _ ⟨K',st,r,d,rfl⟩
  |seq c1 c2 ih1 ih2=>
   intro fr s x s' K a w Q h S F hf hg hq;have h:M.bind (a0w P T N call c1 fr) (λr=>X3 r.1 (a0w P T N call c2 r.2) (λid=>M.pure (.exit id,r.2)) (M.pure (.ret,r.2)) (λv=>M.pure (.pan v,r.2))) s=some (x,s'):=h;obtain⟨⟨x1,fr1⟩,s1,h2,h3⟩:=E8 h;refine wp_seq ?_;by_cases hx:x1=.normal;subst hx;have h3:a0w P T N call c2 fr1 s1=some (x,s'):=h3;have hle:=(hFe _ _).le h3;refine ih1 fr s (.normal,fr1) s1 K a w _ h2 S (F.left hle) hf hg λe a' w' L=>?_;obtain⟨K1,st,r1,d1,e1⟩:=L;have e1:e=.normal:=e1;subst e1;exact ih2 fr1 s1 x s' K1 a' w' Q h3 st.sim (F.right (hFe _ _) h2) r1 (hg.mono st.le) λe a2 w2 L=>hq e a2 w2 (a7X.from st hle (d1▸L));have h4:M.pure (x1,fr1) s1=some (x,s'):=by cases x1 with|normal=>simp_all|_=>exact h3
   obtain⟨rfl,rfl⟩:=y8 h4;refine ih1 fr s _ _ K a w _ h2 S F hf hg λe a' w' L=>?_;exact b7b (L.cases hx) (hq _ _ _ L)|cond o c1 c2 ih1 ih2=>intro fr s x s' K a w Q h S F hf hg hq;obtain⟨u,e1,h1⟩:=H9 h;have r:=O7 hf hg e1;rcases b8U h1 with⟨rfl,h2⟩|⟨rfl,h2⟩;grind[wp_cond_true,b3Y];grind[wp_cond_false,b3Y]|block id b ih=>
   intro fr s x s' K a w Q h S F hf hg hq;obtain⟨⟨x1,fr1⟩,s1,h2,h3⟩:=E8 h;obtain⟨rfl,rfl⟩:=y8 h3;refine wp_block ?_;refine ih fr s _ _ K a w _ h2 S F hf hg λe a' w' L=>?_;obtain⟨K1,st,r1,d1,e1⟩:=L;cases x1 with
    |normal=>have e1:e=.normal:=e1;subst e1;exact hq _ _ _ ⟨K1,st,r1,d1,rfl⟩|exit id'=>have e1:e=.exit id':=e1;subst e1;show(if id'=id then Q .normal a' w' else Q (.exit id') a' w');cases hb:Nat.beq id' id with|true=>rw[vX (wo hb)];refine hq _ _ _ ⟨K1,st,r1,d1,?_⟩;grind[exC,a6m]|false=>rw[vg (λq=>zm)];refine hq _ _ _ ⟨K1,st,r1,d1,?_⟩;grind[a6m]
    |ret=>have e1:e=.ret:=e1;subst e1;exact hq _ _ _ ⟨K1,st,r1,d1,rfl⟩|pan v=>obtain⟨v',rfl,q⟩:=e1;exact hq _ _ _ ⟨K1,st,r1,d1,v',rfl,q⟩
  |loop b ih=>
   intro fr s x s' K a w Q h S F hf hg hq;have h:Q5 (a0w P T N call b) N fr s=some (x,s'):=h;refine pJ N ?_;have hFl:∀n fr,Fr (Q5 (a0w P T N call b) n fr):=λn=>Fr.loopN (hFe b) n;have key:∀n fr s K a w,Q5 (a0w P T N call b) n fr s=some (x,s')->Sim B0 w0 K s.h w->a0z K s s'->VRL K a.tmps.toList fr->GK T K->(∀e a' w',a7X B0 w0 K s' a.defers x.1 x.2 e a' w'->Q e a' w')->Code.rounds P b Q n a w:=by
    intro n;induction n with
     |zero=>intro fr s K a w h;cases h|succ n ihn=>
      intro fr s K a w h S F hf hg hq;rw[Z6]at h;obtain⟨⟨x1,fr1⟩,s1,h2,h3⟩:=E8 h;show b.wp P (Exit.then (Code.rounds P b Q n) Q) a w;by_cases hx:x1=.normal;subst hx;have h3:Q5 (a0w P T N call b) n fr1 s1=some (x,s'):=h3;have hle:=(hFl _ _).le h3;refine ih fr s (.normal,fr1) s1 K a w _ h2 S (F.left hle) hf hg λe a' w' L=>?_;obtain⟨K1,st,r1,d1,e1⟩:=L;have e1:e=.normal:=e1;subst e1;exact ihn fr1 s1 K1 a' w' h3 st.sim (F.right (hFe _ _) h2) r1 (hg.mono st.le) λe a2 w2 L=>hq e a2 w2 (a7X.from st hle (d1▸L));have h4:M.pure (x1,fr1) s1=some (x,s'):=by cases x1 with|normal=>simp_all|_=>exact h3
      obtain⟨rfl,rfl⟩:=y8 h4;refine ih fr s _ _ K a w _ h2 S F hf hg λe a' w' L=>?_;exact b7b (L.cases hx) (hq _ _ _ L)
   grind|exit id=>intro fr s x s' K a w Q h S F hf hg hq;obtain⟨rfl,rfl⟩:=y8 h;exact wp_exit (hq _ _ _ ⟨K,Step.same S rfl,hf,rfl,rfl⟩)|ret=>intro fr s x s' K a w Q h S F hf hg hq;obtain⟨rfl,rfl⟩:=y8 h;exact wp_ret (hq _ _ _ ⟨K,Step.same S rfl,hf,rfl,rfl⟩)|_=>intro fr s x s' K a w Q h;cases h
theorem d6S {β}(fr rs):∀(k:List Value->M β),a3L T o9 fr rs k=M.bind (a3H T fr rs) k:=by
 induction rs with
  |nil=>intro k;rfl|cons r rs ih=>
   intro k;cases r with
    |tmp t=>show a3L T o9 fr rs (λvs=>k (C8 fr t::vs))=M.bind (M.bind (a3H T fr rs) λvs=>M.pure (C8 fr t::vs)) k;rw[a1Z,ih];rfl|cell ad t=>
     show a0G (C8 fr ad) (λad=>M.bind (a4E T t ad) λv=>a3L T o9 fr rs λvs=>k (v::vs))=M.bind (a0G (C8 fr ad) λad=>M.bind (a4E T t ad) λv=>M.bind (a3H T fr rs) λvs=>M.pure (v::vs)) k;cases C8 fr ad with
      |pointer o=>cases o with|none=>rfl|some ad=>show M.bind (a4E T t ad) (λv=>a3L T o9 fr rs λvs=>k (v::vs))=M.bind (M.bind (a4E T t ad) λv=>M.bind (a3H T fr rs) λvs=>M.pure (v::vs)) k;rw[a1Z];congr 1;funext v;rw[ih,a1Z];rfl
      |_=>rfl
theorem d3u {fn ex r}(h:c1k T o9 fn ex fr s=some (r,s')):((ex=.normal\/ex=.ret)/\∃v,r=.ret v/\b1l T fn (.ret,fr) s=some (v,s'))\/∃v,ex=.pan v/\r=.pan v/\s'=s:=by
 have key:a3L T o9 fr fn.results.toList (λvs=>M.pure (CR.ret (a7E vs))) s=some (r,s')->∃v,r=.ret v/\b1l T fn (.ret,fr) s=some (v,s'):=by intro h;rw[d6S]at h;obtain⟨vs,s1,h1,h2⟩:=E8 h;obtain⟨rfl,rfl⟩:=y8 h2;refine⟨a7E vs,rfl,?_⟩;show M.bind (a3H T fr fn.results.toList) (λvs=>M.pure (a7E vs)) s=_;exact a1m h1 rfl
 cases ex with|normal=>exact Or.inl ⟨Or.inl rfl,key h⟩|exit id=>cases h|ret=>exact Or.inl ⟨Or.inr rfl,key h⟩|pan v=>obtain⟨rfl,rfl⟩:=y8 h;simp_all
theorem d0H (hT:TabOk P T)(hM:P.follows .mixedOrders=true){ext}(hE:b9R P T B0 w0 ext)(N n):a8D P T B0 w0 (b6U P T ext N n):=by
 induction n with
  |zero=>intro f vs s r s' w K vs' h;cases h|succ n ih=>
   intro f vs s r s' w K vs' h S hg F hvs;have h0:(match ext f with|some g=>M.bind (g vs) λv=>M.pure (CR.ret v)|none=>M.obind (T.funcs.get f) λfn=>a6R P T N (b6U P T ext N n) fn f vs) s=some (r,s'):=h;have hFc:=Fr.callC (p:=P) (T:=T) hE.1 N n;cases hx:ext f with
    |some g=>rw[hx]at h0;obtain⟨v,s1,h1,h2⟩:=E8 h0;obtain⟨rfl,rfl⟩:=y8 h2;rcases hE.2 f g hx vs s v _ w K vs' h1 S hg F hvs with⟨v',w',K',q1,q2,q3⟩|⟨q1,q2⟩;grind;exact Or.inr ⟨q1,q2⟩|none=>
     rw[hx]at h0;obtain⟨fn,hfn,h1⟩:=H9 h0;obtain⟨hPf,hnum⟩:=hT.funcs f fn hfn;unfold a6R at h1;cases hb:fn.body with
      |none=>
       rw[hb]at h1;obtain⟨v,s1,h2,h3⟩:=E8 h1;obtain⟨rfl,rfl⟩:=y8 h3;have h4:a7c P T (λ_=>none) 1 f vs s=some (v,s'):=by show M.obind (T.funcs.get f) (λfn=>enter P T (a7c P T (λ_=>none) 0) 0 fn f vs) s=_;rw[hfn];show enter P T (a7c P T (λ_=>none) 0) 0 fn f vs s=_;simp_all[enter]
       rcases b3w hT hM (ext:=λ_=>none) (B0:=B0) (w0:=w0) ⟨λ_ _ q=>zb,λ_ _ q=>zb⟩ 1 f vs s v s' w K vs' h4 S hg F hvs with⟨v',w',K',q1,q2,q3⟩|⟨q1,q2⟩;grind;exact Or.inr ⟨q1,q2⟩|some c=>right;rw[hb]at h1;obtain⟨⟨ex,fr1⟩,s1,h2,h3⟩:=E8 h1;have hle:s1.c<=s'.c:=(Fr.finK fn ex fr1).le h3;refine⟨?_,?_⟩;simp_all[callFunc];refine calls_of_wp hPf hb ?_;rw[V7,J2,b3p]at h2;refine c8S hT hM ih hFc N c _ s (ex,fr1) s1 K _ w _ h2 S (F.left hle) ?_ hg λe a' w' L=>?_;show VRL K (vs'.toArray++Array.replicate (fn.ntmps-vs'.toArray.size) undef).toList (vs++List.replicate (fn.ntmps-vs.length) undef);simp only[tO,tC,tq,hvs.len];exact hvs.append (VRL.replicate _);obtain⟨K1,st,r1,d1,e1⟩:=L;rcases d3u h3 with⟨hex,v,rfl,hfin⟩|⟨v,hex,rfl,rfl⟩;obtain⟨f1,f2,f3,v',f4,f5⟩:=b6x hT hfin r1 st.sim;have st2:Step B0 w0 K s' w' K1:=⟨st.le,λi g hi=>st.far i g zy,by rw[f2];exact st.sim⟩;rcases hex with rfl|rfl;have e1:e=.normal:=e1;subst e1;exact⟨d1,v',f4,v',K1,rfl,st2,f5⟩;have e1:e=.ret:=e1;subst e1;exact⟨d1,v',f4,v',K1,rfl,st2,f5⟩;subst hex;obtain⟨v',rfl,q⟩:=e1;exact⟨d1,v',K1,rfl,st,q⟩
theorem Le.foot {α}{m m':M α}(h:Le m m'):Le (M.foot m) (M.foot m'):=λs r e=>by unfold M.foot at e⊢;cases hm:m ⟨s.c,s.h,[],[]⟩with|none=>rw[hm]at e;cases e|some x=>rw[hm]at e;rw[h _ _ hm];exact e
theorem Le.xcase {β:Type}{x:Xc}{a a':M β}{b b':Nat->M β}{c c':M β}{d d':Value->M β}(h1:Le a a')(h2:∀i,Le (b i) (b' i))(h3:Le c c')(h4:∀v,Le (d v) (d' v)):Le (X3 x a b c d) (X3 x a' b' c' d'):=a7j (λ_=>h1) (λi _=>h2 i) (λ_=>h3) (λv _=>h4 v)
section
variable {c c':I5}(hc:∀f vs,Le (c f vs) (c' f vs))
include hc
theorem c4k (f vs):Le (a1M c f vs) (a1M c' f vs):=Le.bind (hc f vs) λ_=>Le.refl _
theorem c5P {β}(fr o){kn kp kn' kp':Value->M β}(h1:∀v,Le (kn v) (kn' v))(h2:∀v,Le (kp v) (kp' v)):Le (a3T P T o9 c fr o kn kp) (a3T P T o9 c' fr o kn' kp'):=by
 have hs:∀m:M Value,Le (o9.bv β m kn) (o9.bv β m kn'):=λm=>Le.bind (Le.refl _) h1;cases o with
  |move x=>exact Le.obind λv _=>h1 v|assign x=>exact Le.obind λv _=>h1 v|call cl=>
   obtain⟨cal,args,ts⟩:=cl;cases cal with
    |value f=>refine Le.obind λga _=>?_;show Le (M.bind (c ga.1 ga.2) λr=>a1w r kn kp) (M.bind (c' ga.1 ga.2) λr=>a1w r kn' kp');refine Le.bind (hc _ _) λr=>?_;cases r with|ret v=>exact h1 v|pan v=>exact h2 v
    |builtin b=>exact hs _|invoke r m=>exact Le.fail _
  |panic x=>refine Le.obind λv _=>?_;cases a5e v with|true=>exact h2 v|false=>exact Le.fail _
  |_=>exact hs _
theorem d0i (ops os):∀fr,Le (a4V P T c ops os fr) (a4V P T c' ops os fr):=by induction os with|nil=>intro fr;exact Le.refl _|cons o os ih=>grind[a4T,c5P,Le.refl]
theorem c4f (fr o):Le (Z8 P T (a1M c) fr o) (Z8 P T (a1M c') fr o):=by
 unfold Z8;cases b1b o with
  |none=>exact Le.refl _|some cl=>
   obtain⟨cal,args,ts⟩:=cl;cases cal with
    |value f=>
     show Le (a5h T fr f args.toList (a1M c)) (a5h T fr f args.toList (a1M c'));unfold a5h ev evs;refine Le.obind λv _=>Le.obind λvs _=>?_;cases v with
      |func fn first captured=>cases fn<;>first|rfl|grind[c4k,Le.fail]
      |_=>exact Le.fail _
    |builtin b=>exact Le.refl _|invoke r m=>exact Le.fail _
theorem d0y (ops os):∀fr,Le (a2t P T (a1M c) ops os fr) (a2t P T (a1M c') ops os fr):=by induction os with|nil=>intro fr;exact Le.refl _|cons o os ih=>grind[a7u,Le.bind,Le.foot,c4f,Le.refl]
theorem c7k (N):∀k fr,Le (a0w P T N c k fr) (a0w P T N c' k fr):=by
 intro k;induction k with
  |region id ops draw=>intro fr;cases draw with|false=>exact d0i hc _ _ _|true=>show Le (M.bind (a2t P T (a1M c) ops.toList ops.toList fr) λy=>M.guard (a2P ops.toList (a4x ops.toList y.2) [] [] 0)<|M.pure (Xc.normal,y.1)) (M.bind (a2t P T (a1M c') ops.toList ops.toList fr) λy=>M.guard (a2P ops.toList (a4x ops.toList y.2) [] [] 0)<|M.pure (Xc.normal,y.1));grind[Le.bind,d0y,Le.refl]
  |seq a b iha ihb=>intro fr;exact Le.bind (iha fr) λr=>Le.xcase (ihb _) (λ_=>Le.refl _) (Le.refl _) (λ_=>Le.refl _)|cond x a b iha ihb=>
   intro fr;refine Le.obind λv _=>?_;cases v with
    |bool t=>cases t with|true=>exact iha fr|false=>exact ihb fr
    |_=>exact Le.fail _
  |block id b ih=>intro fr;exact Le.bind (ih fr) λr=>Le.refl _|loop b ih=>
   intro fr;have key:∀n fr,Le (Q5 (a0w P T N c b) n fr) (Q5 (a0w P T N c' b) n fr):=by intro n;induction n with|zero=>intro fr;exact Le.fail _|succ n ihn=>grind[Z6,Le.bind,Le.xcase,Le.refl]
   exact key N fr|_=>intro fr;exact Le.refl _
theorem c3V (N fn f args):Le (a6R P T N c fn f args) (a6R P T N c' fn f args):=by grind[a6R,Le.refl,Le.bind,c7k]
end
noncomputable def atF (P:Program)(T:Tab)(ext:Nat->Option (List Value->M Value))(N f:Nat)(call:I5)(args:List Value):M CR:=match ext f with|some g=>M.bind (g args) λv=>M.pure (CR.ret v)|none=>M.obind (T.funcs.get f) λfn=>a6R P T N call fn f args
def a8h (P:Program)(T:Tab)(ext:Nat->Option (List Value->M Value))(N:Nat)(sh:a1r):Prop:=∀f g,sh.get f=some g->∀call args,Le (g call args) (atF P T ext N f call args)
theorem c1u {ext N sh}(h:a8h P T ext N sh)(n):∀f vs,Le (o8 sh n f vs) (b6U P T ext N n f vs):=by induction n with|zero=>intro f vs;exact Le.fail _|succ n ih=>intro f vs;show Le (M.obind (sh.get f) λg=>g (o8 sh n) vs) (atF P T ext N f (b6U P T ext N n) vs);cases hg:sh.get f with|none=>exact Le.fail _|some g=>refine Le.trans (h f g hg _ _) ?_;grind[atF,Le.refl,Le.obind,c3V]
theorem b0k {ext N f fn c}(he:ext f=none)(hf:T.funcs.get f=some fn)(hb:fn.body=some c)(pn pl){call args m}(h:a2z P T a2y pn N call fn c pl args=m):Le m (atF P T ext N f call args):=by subst h;unfold atF;rw[he,hf];show Le _ (a6R P T N call fn f args);unfold a6R a2z;rw[hb,a4q];exact d1y N c pl CR _ _ (λex fr=>c1k T o9 fn ex fr) λ_ _=>Le.refl _
theorem d5G {ext N f g}(he:ext f=some g){call args}:Le (M.bind (g args) λv=>M.pure (CR.ret v)) (atF P T ext N f call args):=by grind[atF,Le.refl]
theorem b0H (hT:TabOk P T)(hM:P.follows .mixedOrders=true){ext}(hE:b9R P T B0 w0 ext){N sh}(hs:a8h P T ext N sh)(n):a8D P T B0 w0 (o8 sh n):=λf vs s r s' w K vs' h=>d0H hT hM hE N n f vs s r s' w K vs' (c1u hs n f vs s _ h)
end
end Go.V
end
noncomputable section
namespace Go.V
abbrev R2:=Xc×List Value
def noP {β:Type}:Value->M β:=λ_=>M.fail
def a6U (v:Value):M Value:=a0G v λa=>M.bind (loadN a 1) λvs=>M.pure (C8 vs 0)
def b1g (n:Nat)(v:Value):M Value:=a0G v λa=>M.bind (loadN a n) λvs=>M.pure (.agg ⟨vs⟩)
def a6o (n:Nat)(va v:Value):M Value:=a0G va λa=>M.bind (M.guard (!(Nat.beq n 0)&&Nat.beq (F9 v.cells.toList) n)<|storeN a v.cells.toList) λ_=>M.pure undef
def b5j (zs:List Value):M Value:=M.bind (a0b zs) λa=>M.pure (.pointer (some a))
def a7m (v:Value):M Value:=M.guard (!(a2A v.cells.toList))<|M.bind (a0b v.cells.toList) λa=>M.pure (.pointer (some a))
def a5l (os:List (Nat×Nat)):List Value->List Value->Option (List Value):=List.rec (motive:=λ_=>List Value->List Value->Option (List Value)) (λ_ cs=>some cs) (λq _ ih vs cs=>match vs with|[]=>none|v::vs=>match Nat.beq (F9 v.cells.toList) q.2&&Nat.ble (q.1+q.2) (F9 cs)with|true=>ih vs (a2O v.cells.toList cs q.1)|false=>none) os
def a8R (os:List (Nat×Nat))(vs zs:List Value):M Value:=M.obind (a5l os vs zs) λcs=>M.pure (.agg ⟨cs⟩)
def a9X (n len:Nat)(os:List (Nat×Nat))(vs zs:List Value):M Value:=M.obind (a5l os vs zs) λcs=>M.bind (a0b cs) λa=>M.pure (.slice (some a) len n)
def e1i (v:Value):M Value:=match v with|.pointer a=>M.guard a.isSome<|M.pure (.pointer a)|.func fn a b=>M.guard (c2m fn)<|M.pure (.func fn a b)|_=>M.fail
def a3R (vc va vb:Value):M Value:=match vc with
 |.bool t=>match t with|true=>M.pure va|false=>M.pure vb
 |_=>M.fail
def c2Z (k:IntKind)(x:Value):M Value:=match x with|.int _ n=>M.pure (.int k (N8 k n))|_=>M.fail
def xFA (off:Nat)(x:Value):M Value:=a0G x λa=>M.pure (.pointer (some (fwd a off)))
def xF1 (off:Nat)(x:Value):M Value:=match x with|.agg cs=>M.obind (a0r cs.toList off) M.pure|_=>M.fail
def xFN (off n:Nat)(x:Value):M Value:=match x with|.agg cs=>M.pure (.agg ⟨a2i (F8 cs.toList off) n⟩)|_=>M.fail
def elemAtN (n:Nat)(a:Addr)(i len:Nat):M Value:=M.guard (Nat.blt i len&& !(Nat.beq n 0))<|M.pure (.pointer (some (fwd a (i*n))))
def a7l (n:Nat)(x ix:Value):M Value:=M.obind (a7O ix) λi=>match x with|.slice a len es=>M.obind a λa=>M.guard (Nat.beq es n)<|elemAtN n a i len|_=>M.fail
def c7o (n len:Nat)(x ix:Value):M Value:=M.obind (a7O ix) λi=>a0G x λa=>elemAtN n a i len
def b6c (a b:Value):M Value:=M.obind (a7O b) λj=>match a with|.string s=>M.obind (a0r s.data.toList j) λb=>M.pure (a7b b)|_=>M.fail
def d8q (i:Nat)(a:Value):M Value:=match a with|.tuple vs=>M.obind (a0r vs.toList i) M.pure|_=>M.fail
def a3S (x:Value):M Value:=match x with|.string s=>M.pure (goInt (F9 s.data.toList))|_=>M.fail
def b1Z (x:Value):M Value:=match x with|.slice _ n _=>M.pure (goInt n)|_=>M.fail
def a3G (e:TI)(s x:Value):M Value:=M.bind (b0p e.size x) λvs=>fList vs λvs=>a7n e s vs
def a5H (x:Value)(lo hi:Option Value):M Value:=match x with|.string s=>a7K s lo hi|_=>M.fail
def cutN (n:Nat)(a:Addr)(len:Nat)(lo hi:Option Value):M Value:=M.obind (a2U 0 lo) λl=>M.obind (a2U len hi) λh=>M.guard (Nat.ble l h&&Nat.ble h len&& !(Nat.beq n 0))<|M.pure (.slice (some (fwd a (l*n))) (h-l) n)
def a4d (n:Nat)(x:Value)(lo hi:Option Value):M Value:=match x with
 |.slice a len es=>match a with|some a=>M.guard (Nat.beq es n)<|cutN n a len lo hi|none=>M.guard (Nat.beq len 0)<|cutNil lo hi
 |_=>M.fail
def d5w (fn:Fn)(va vb:List Value):M Value:=M.pure (.func fn ⟨va⟩ ⟨vb⟩)
section
variable (p:Program)(T:Tab)
def a0J (op:BinOp)(t:TypeId)(x y:Operand)(a b:Value):M Value:=match a with
 |.int k n=>match b with
  |.int k' m=>match a3h op k k' n m with|some v=>M.pure v|none=>a9s p T op t x y a b
  |_=>M.fail
 |.string s=>match b with|.string s'=>M.lift (b3R op s.data.toList s'.data.toList)|_=>M.fail
 |_=>a9s p T op t x y a b
def xUn (op:UnOp)(a:Value):M Value:=M.guard (plain a)<|pureV (a0H p (Op.unary op a))
def e2m (ts:Array TypeId)(vs:List Value):M Value:=M.guard (M0 plain vs)<|pureV (a0H p (Builtin.max_ ts 0 ⟨vs⟩))
def e7O (ts:Array TypeId)(vs:List Value):M Value:=M.guard (M0 plain vs)<|pureV (a0H p (Builtin.min_ ts 0 ⟨vs⟩))
def b7Z (t:TypeId)(a b v:Value):M Value:=M.bind (a6F T t a b v) λ_=>M.pure undef
def c6a:M Value:=M.bind (new (.map [])) λb=>M.pure (.map (some b))
def e5S (v:Value):M Value:=M.guard (b6i v)<|M.bind (new (.map [])) λb=>M.pure (.map (some b))
def d9j (v:Value):M Value:=match v with|.string s=>M.bind (new (.siter s 0)) λb=>M.pure (.pointer (some ⟨b,0,some 0⟩))|_=>M.fail
def e4J (v:Value):M Value:=a0G v λa=>M.guard (Nat.beq a.off 0&&d0E a.spot)<|M.bind (rd a.block) λo=>match o with|.siter s pos=>b2Z a.block s pos|_=>M.fail
end
def b0l (f:Func):Code:=match f.body with|some c=>c|none=>.skip
end Go.V
end
noncomputable section
namespace Go.V
theorem U1 {β}(m k):o9.bv β m k=M.bind m k:=wm rfl rfl
theorem Y8 {β}(m kn kp):o9.bc β m kn kp=M.bind m λr=>a1w r kn kp:=wm rfl rfl
theorem Y6 {β}(m k):o9.bj β m k=M.bind m λr=>k r.1 r.2:=wm rfl rfl
theorem b0n (b n x):o9.lp b n x=Q5 b n x:=wm rfl rfl
theorem c2a {β}(v)(kn kp:Value->M β):a1w (.ret v) kn kp=kn v:=wm rfl rfl
theorem I6 {β}(a:M β)(b c d):X3 .normal a b c d=a:=wm rfl rfl
theorem a2x {β}(i)(a:M β)(b c d):X3 (.exit i) a b c d=b i:=wm rfl rfl
theorem a3l {β}(a:M β)(b c d):X3 .ret a b c d=c:=wm rfl rfl
theorem G6 {α}(x y:α):bcase true x y=x:=wm rfl rfl
theorem G5 {α}(x y:α):bcase false x y=y:=wm rfl rfl
theorem Q4 (b):a1O true (.bool b)=b:=ze
theorem N9 (b):a1O false (.bool b)=!b:=ze
theorem N7 {β}(b)(x y:M β):a5P (.bool b) x y=bcase b x y:=wm rfl rfl
theorem Q3 {α}(b)(x y:α):bcase b (M.pure x) (M.pure y)=M.pure (bcase b x y):=ze
theorem Q6 (b)(x:Xc)(l m:List Value):bcase b (x,l) (x,m)=(x,bcase b l m):=ze
theorem Q7 (b l m i):C8 (bcase b l m) i=bcase b (C8 l i) (C8 m i):=ze
theorem a6A {α}(b)(x y:α):bcase (!b) x y=bcase b y x:=ze
theorem a7o (b c):a3R (.bool b) (bcase b (.bool c) undef) (.bool false)=M.pure (.bool (b&&c)):=ze
theorem b4v (b c):a3R (.bool b) (.bool true) (bcase b undef (.bool c))=M.pure (.bool (b||c)):=ze
theorem l_0 (v l):C8 (v::l) 0=v:=wm rfl rfl
theorem l_s (v l i):C8 (v::l) (i+1)=C8 l i:=wm rfl rfl
section
variable (p:Program)(T:Tab)
theorem a4W {op t x y k n m v}(h1:a6e (a4X op k) n m=none)(h:b3O op k n m=some v):a0J p T op t x y (.int k n) (.int k m)=M.pure v:=by
 have hk:a2f k k=true:=by cases k<;>rfl
 have:a3h op k k n m=some v:=by grind[a3h]
 grind[a0J]
theorem a5b {op}(h:op≠.shl)(h':op≠.shr)(k n m):a6e (a4X op k) n m=none:=by
 unfold a6e;cases n with
  |ofNat n=>
   cases m with
    |ofNat m=>cases op<;>first|rfl|exact absurd rfl h|exact absurd rfl h'
    |negSucc m=>rfl
  |negSucc n=>rfl
theorem I7 (t x y k n m):a0J p T .lss t x y (.int k n) (.int k m)=M.pure (.bool (decide (n<m))):=a4W p T (a5b zq zq _ _ _) rfl
theorem a9T (t x y k n m):a0J p T .leq t x y (.int k n) (.int k m)=M.pure (.bool (decide (n<=m))):=a4W p T (a5b zq zq _ _ _) rfl
theorem R6 (t x y k n m):a0J p T .gtr t x y (.int k n) (.int k m)=M.pure (.bool (decide (m<n))):=a4W p T (a5b zq zq _ _ _) rfl
theorem a3N (t x y k n m):a0J p T .geq t x y (.int k n) (.int k m)=M.pure (.bool (decide (m<=n))):=a4W p T (a5b zq zq _ _ _) rfl
theorem W9 (t x y k n m):a0J p T .eql t x y (.int k n) (.int k m)=M.pure (.bool (decide (n=m))):=a4W p T (a5b zq zq _ _ _) rfl
theorem a5d (t x y k n m):a0J p T .neq t x y (.int k n) (.int k m)=M.pure (.bool (!(decide (n=m)))):=a4W p T (a5b zq zq _ _ _) rfl
theorem M4 (t x y k n m):a0J p T .add t x y (.int k n) (.int k m)=M.pure (.int k (N8 k (n+m))):=a4W p T (a5b zq zq _ _ _) rfl
theorem V9 (t x y k n m):a0J p T .sub t x y (.int k n) (.int k m)=M.pure (.int k (N8 k (n-m))):=a4W p T (a5b zq zq _ _ _) rfl
theorem T9 (b):xUn p .not (.bool b)=M.pure (.bool (!b)):=ze
end
theorem a0l (s j b)(h:s.data.toList[j]?=some b):b6c (.string s) (.int .i64 (.ofNat j))=M.pure (.int .u8 (.ofNat b.toNat)):=by unfold b6c;show M.obind (a0r s.data.toList j) (λb=>M.pure (a7b b))=_;rw[a2E,h];rfl
theorem a1k (s):a3S (.string s)=M.pure (.int .i64 (.ofNat s.data.toList.length)):=by unfold a3S;simp only[J2];rfl
end Go.V
end
noncomputable section
namespace Go.V
def ar0 (f:I5->M CR):I5->List Value->M CR:=λcall args=>match args with|[]=>f call|_=>M.fail
def ar1 (f:I5->Value->M CR):I5->List Value->M CR:=λcall args=>match args with|[a]=>f call a|_=>M.fail
def ar2 (f:I5->Value->Value->M CR):I5->List Value->M CR:=λcall args=>match args with|[a,b]=>f call a b|_=>M.fail
def ar3 (f:I5->Value->Value->Value->M CR):I5->List Value->M CR:=λcall args=>match args with|[a,b,c]=>f call a b c|_=>M.fail
def ar4 (f:I5->Value->Value->Value->Value->M CR):I5->List Value->M CR:=λcall args=>match args with|[a,b,c,d]=>f call a b c d|_=>M.fail
def ar5 (f:I5->Value->Value->Value->Value->Value->M CR):I5->List Value->M CR:=λcall args=>match args with|[a,b,c,d,e]=>f call a b c d e|_=>M.fail
def ar6 (f:I5->Value->Value->Value->Value->Value->Value->M CR):I5->List Value->M CR:=λcall args=>match args with|[a,b,c,d,e,g]=>f call a b c d e g|_=>M.fail
def arX (g:List Value->M Value):I5->List Value->M CR:=λ_ args=>M.bind (g args) λv=>M.pure (.ret v)
section
variable {P:Program}{T:Tab}{ext:Nat->Option (List Value->M Value)}{N f:Nat}{fn:Func}{c:Code}{pn:Bool}{pl:Pl}
def Fit (P:Program)(T:Tab)(ext:Nat->Option (List Value->M Value))(N f:Nat)(g:I5->List Value->M CR):Prop:=∀call args,Le (g call args) (atF P T ext N f call args)
theorem e6h {sh:Cb->Nat->I5->M CR}(he:ext f=none)(hf:T.funcs.get f=some fn)(hb:fn.body=some c)(h:∀cb N call,a2z P T cb pn N call fn c pl []=sh cb N call):Fit P T ext N f (ar0 (sh a2y N)):=by intro call args;unfold ar0;grind[b0k,Le.fail]
theorem e5h {sh:Cb->Nat->I5->Value->M CR}(he:ext f=none)(hf:T.funcs.get f=some fn)(hb:fn.body=some c)(h:∀cb N call a,a2z P T cb pn N call fn c pl [a]=sh cb N call a):Fit P T ext N f (ar1 (sh a2y N)):=by intro call args;unfold ar1;grind[b0k,Le.fail]
theorem e4O {sh:Cb->Nat->I5->Value->Value->M CR}(he:ext f=none)(hf:T.funcs.get f=some fn)(hb:fn.body=some c)(h:∀cb N call a b,a2z P T cb pn N call fn c pl [a,b]=sh cb N call a b):Fit P T ext N f (ar2 (sh a2y N)):=by intro call args;unfold ar2;grind[b0k,Le.fail]
theorem e5W {sh:Cb->Nat->I5->Value->Value->Value->M CR}(he:ext f=none)(hf:T.funcs.get f=some fn)(hb:fn.body=some c)(h:∀cb N call a b d,a2z P T cb pn N call fn c pl [a,b,d]=sh cb N call a b d):Fit P T ext N f (ar3 (sh a2y N)):=by intro call args;unfold ar3;grind[b0k,Le.fail]
theorem e6m {sh:Cb->Nat->I5->Value->Value->Value->Value->M CR}(he:ext f=none)(hf:T.funcs.get f=some fn)(hb:fn.body=some c)(h:∀cb N call a b d e,a2z P T cb pn N call fn c pl [a,b,d,e]=sh cb N call a b d e):Fit P T ext N f (ar4 (sh a2y N)):=by intro call args;unfold ar4;grind[b0k,Le.fail]
theorem e4d {sh:Cb->Nat->I5->Value->Value->Value->Value->Value->M CR}(he:ext f=none)(hf:T.funcs.get f=some fn)(hb:fn.body=some c)(h:∀cb N call a b d e g,a2z P T cb pn N call fn c pl [a,b,d,e,g]=sh cb N call a b d e g):Fit P T ext N f (ar5 (sh a2y N)):=by intro call args;unfold ar5;grind[b0k,Le.fail]
theorem e5x {sh:Cb->Nat->I5->Value->Value->Value->Value->Value->Value->M CR}(he:ext f=none)(hf:T.funcs.get f=some fn)(hb:fn.body=some c)(h:∀cb N call a b d e g k,a2z P T cb pn N call fn c pl [a,b,d,e,g,k]=sh cb N call a b d e g k):Fit P T ext N f (ar6 (sh a2y N)):=by intro call args;unfold ar6;grind[b0k,Le.fail]
theorem d4c {g}(he:ext f=some g):Fit P T ext N f (arX g):=λ_ _=>d5G he
inductive OAll (Q:(I5→List Value→M CR)→Prop):Option (I5→List Value→M CR)→Prop
 | none:OAll Q Option.none
 | some {g:I5→List Value→M CR}:Q g→OAll Q (Option.some g)
inductive TAll:(Nat→(I5→List Value→M CR)→Prop)→a1r→Prop
 | leaf {Q:Nat→(I5→List Value→M CR)→Prop}:TAll Q .leaf
 | node {Q:Nat→(I5→List Value→M CR)→Prop} {v:Option (I5→List Value→M CR)} {l r:a1r}:OAll (Q 0) v→TAll (fun k=>Q (2 * k+1)) l→TAll (fun k=>Q (2 * k+2)) r→TAll Q (.node v l r)
theorem TAll.get {Q t}(h:TAll Q t):∀f g,t.get f=some g->Q f g:=by
 induction h with
  |leaf=>intro f g e;cases e|node hv _ _ ihl ihr=>
   intro f g e;cases f with
    |zero=>cases hv with|none=>cases e|some q=>cases e;exact q
    |succ k=>rw[Trie.get_node_succ]at e;grind
end
end Go.V
end
noncomputable section
namespace Go.V
open Go.RowKit (Below)
abbrev a2C:=List (List Value)
def b4g (vs:a2C):Nat->Trie VObj->Trie VObj:=List.rec (motive:=λ_=>Nat->Trie VObj->Trie VObj) (λ_ t=>t) (λv _ ih i t=>Trie.putK (some (.cells (J7 (λx=>(x,0)) v) 0 true)) (i+1) t i λt=>ih (i+1) t) vs
def a3a (vs:a2C):S:=⟨F9 vs,b4g vs 0 .leaf,[],[]⟩
structure LaidV (vs:a2C) (w:World):Prop where
 size:vs.length≤w.heap.size
 cell:∀ (g:Nat) (l:List Value),vs[g]?=some l→∀ (off:Nat) v,l[off]?=some v→w.cell? ⟨g,off,none⟩=some v
 row:∀ (g:Nat) (l:List Value),vs[g]?=some l→l≠[]→∃ t fz,w.heap[g]?=some (.cells ⟨l⟩ t fz)
theorem LaidV.below {vs B w w'}(h:LaidV vs w)(b:Below B w w')(hB:vs.length<=B):LaidV vs w':=⟨wL h.size b.size,λg l hg off v hv=>by have hlt:g<vs.length:=(xC.1 hg).1;rw[show w'.cell? ⟨g,off,none⟩=w.cell? ⟨g,off,none⟩from uK (w:=w) (b.block g zy)];exact h.cell g l hg off v hv,λg l hg hl=>by have hlt:g<vs.length:=(xC.1 hg).1;rw[b.block g zy];exact h.row g l hg hl⟩
theorem c3O (vs:a2C):∀(i:Nat) (t:Trie VObj) (j:Nat),(b4g vs i t).get j=if i<=j then(match vs[j-i]? with|some l=>some (.cells (l.map λx=>(x,0)) 0 true)|none=>t.get j)else t.get j:=by
 induction vs with
  |nil=>intro i t j;show t.get j=_;split<;>simp|cons v vs ih=>
   intro i t j;show(Trie.putK (some (.cells (J7 (λx=>(x,0)) v) 0 true)) (i+1) t i λt=>b4g vs (i+1) t).get j=_;rw[Trie.putK_eq,ih,a1z];by_cases h1:i+1<=j;rw[vX h1,vX zy,show j-i=(j-(i+1))+1 by omega,uI];cases vs[j-(i+1)]? with|some l=>rfl|none=>simp only;rw[Trie.get_put _ _ _ _ zy,vg zy]
   rw[vg h1];by_cases h2:i<=j;obtain rfl:j=i:=zy;rw[vX h2,Trie.get_put _ _ _ _ zy,vX rfl];simp;rw[vg h2,Trie.get_put _ _ _ _ zy,vg zy]
section
variable {P:Program}{T:Tab}{w:World}{vs:a2C}
def a6b (vs:a2C):KM:=λb g=>if b<vs.length/\g=0 then some ⟨b,0,0,0,false⟩else none
theorem a2M {b g l}(h:a6b vs b g=some l):b<vs.length/\g=0/\l=⟨b,0,0,0,false⟩:=by unfold a6b at h;simp_all
theorem a1H (j:Nat):(a3a vs).h.get j=match vs[j]? with|some l=>some (.cells (l.map λx=>(x,0)) 0 true)|none=>none:=by show(b4g vs 0 .leaf).get j=_;rw[c3O,vX (vY _),sG];rfl
theorem b0t {R}(hR:∀k,w.heap.size<=k->R k)(hR0:∀k,k<vs.length->R k)(hL:LaidV vs w)(hp:∀l∈vs,∀v∈l,plain v=true):Sim w.heap.size ⟨w,R⟩ (a6b vs) (a3a vs).h w:=by
 have hcs:∀b cs cur ro,(a3a vs).h.get b=some (.cells cs cur ro)->∃l,vs[b]?=some l/\cs=l.map (λx=>(x,0))/\cur=0/\ro=true:=by intro b cs cur ro h;rw[a1H]at h;grind
 refine⟨⟨xD _,hR⟩,tK _ _,?_,?_,?_,?_,?_,?_,?_,?_,?_,?_,λb g l h _=>(a2M h).2.1⟩;intro b g l h;obtain⟨h1,_,rfl⟩:=a2M h;exact⟨wY h1 hL.size,hR0 _ h1⟩;intro b g l h;obtain⟨h1,_,rfl⟩:=a2M h;rw[a1H,wz h1];simp_all;intro b g l h ho;obtain⟨_,_,rfl⟩:=a2M h;cases ho;intro b g l b' g' l' h _ _ ho;obtain⟨_,_,rfl⟩:=a2M h;cases ho;intro b g l g' l' h h';obtain⟨_,_,rfl⟩:=a2M h;obtain⟨_,_,rfl⟩:=a2M h';simp_all;intro b g l cs cur ro h ho;obtain⟨_,_,rfl⟩:=a2M h;cases ho;intro b cs cur ro h;obtain⟨l,h1,rfl,rfl,rfl⟩:=hcs b cs cur ro h;refine⟨λg l' q=>?_,λg hg=>⟨⟨b,0,0,0,false⟩,?_⟩,λc hc=>?_⟩;obtain⟨_,rfl,rfl⟩:=a2M q;simp_all;unfold a6b;rw[vX ⟨(xC.1 h1).1,qb.1 hg⟩];grind;intro b cs cur ro g l h hk off v st hv hst hlo;obtain⟨l',h1,rfl,rfl,rfl⟩:=hcs b cs cur ro h;obtain⟨_,rfl,rfl⟩:=a2M hk;rw[wE]at hv;cases q:l'[off]? with|none=>rw[q]at hv;cases hv|some x=>rw[q]at hv;cases hv;refine⟨v,?_,.plain (hp l' (wG h1) v (wG q))⟩;show w.cell? ⟨b,0+(off-0),none⟩=some v;rw[wM,sG];exact hL.cell b l' h1 off v q
 grind[a1H];grind[a1H]
theorem b2n (h:T.ng<=vs.length):GK T (a6b vs):=λg hg=>⟨⟨g,0,0,0,false⟩,by unfold a6b;rw[vX ⟨zy,rfl⟩],rfl,rfl,rfl⟩
def a2X (P:Program)(T:Tab)(vs:a2C)(ext:Nat->Option (List Value->M Value)):Prop:=∀B0 w0,LaidV vs w0.w->vs.length<=B0->b9R P T B0 w0 ext
theorem c3Q:a2X P T vs (λ_=>none):=λ_ _ _ _=>⟨λ_ _ h=>zZ,λ_ _ h=>zZ⟩
def a6Q (P:Program)(vs:a2C)(f:Nat)(args:List Value)(v:Value):Prop:=∀w,LaidV vs w->(callFunc f args.toArray).run P w=.ok (.enter f args.toArray) w/\Calls P f args.toArray w λe w'=>e=.returned v/\Below w.heap.size w w'
theorem a0c {f:Nat}{fn c args}(hPf:P.funcs[f]?=some fn)(hnum:(fn.name== "runtime.NumGoroutine")=false)(hb:fn.body=some c):(callFunc f args).run P w=.ok (.enter f args) w:=by simp_all[callFunc]
theorem b3l {K l}(h:M0 (M7 8) l=true):VRL K l l:=⟨rfl,λi v' v h1 h2=>by rw[h1]at h2;cases h2;exact a0S 8 _ ((R5 _ _).1 h _ (wG h1))⟩
theorem c4h (hT:TabOk P T)(hM:P.follows .mixedOrders=true)(hng:T.ng<=vs.length)(hp:∀l∈vs,∀v∈l,plain v=true){ext}(hE:a2X P T vs ext){n f}{fn}{c}{args}{v}{s'}(hPf:P.funcs[f]?=some fn)(hnum:(fn.name== "runtime.NumGoroutine")=false)(hb:fn.body=some c)(ha:M0 (M7 8) args=true)(hv:M7 8 v=true)(h:a7c P T ext n f args (a3a vs)=some (v,s')):a6Q P vs f args v:=by intro w hL;have hE':=hE w.heap.size ⟨w,λ_=>True⟩ hL hL.size;refine⟨a0c hPf hnum hb,?_⟩;rcases b3w hT hM hE' n f args (a3a vs) v s' w (a6b vs) args h (b0t (λ_ _=>trivial) (λ_ _=>trivial) hL hp) (b2n hng) (λi hi _=>by rw[a1H];have:vs.length<=i:=yG;rw[wT this]) (b3l ha)with⟨v',w',K',q1,_⟩|⟨_,q⟩;rw[a0c hPf hnum hb]at q1;cases q1;refine q.mono λe w' ⟨v',K',e1,st,r⟩=>?_;rw[e1,r.eq_of_noAddr 8 hv];exact⟨rfl,st.sim.below⟩
def a7I (ext:Nat->Option (List Value->M Value))(f:Nat)(tab:List Value->Option Value):Nat->Option (List Value->M Value):=λg=>match Nat.beq g f with|true=>some λargs=>M.lift (tab args)|false=>ext g
theorem a9A {ext}(hE:a2X P T vs ext){f tab}(ht:∀args v,tab args=some v->M0 (M7 8) args=true/\M7 8 v=true/\a6Q P vs f args v):a2X P T vs (a7I ext f tab):=by
 intro B0 w0 hL hB;have h0:=hE B0 w0 hL hB;constructor;intro g m hm aS9;unfold a7I at hm;cases hb:Nat.beq g f with|true=>rw[hb]at hm;grind[Fr.lift]|false=>rw[hb]at hm;exact h0.1 g m hm aS9
 intro g m hm aS9 s v s' w K vs' h S hg F hvs;unfold a7I at hm;cases hb:Nat.beq g f with
  |true=>
   rw[hb]at hm;cases hm;obtain rfl:=wo hb;right;obtain⟨e1,e2⟩:=a5a h;obtain⟨t1,t2,t3⟩:=ht aS9 v e1;have hvv:vs'=aS9:=by
    apply vK;intro i;by_cases hi:i<aS9.length;have hi':i<vs'.length:=by rw[hvs.len];exact hi
    have r:=hvs.at_ i _ _ (wz hi') (wz hi);rw[wz hi',wz hi,r.eq_of_noAddr 8 ((R5 _ _).1 t1 aS9[i] (vB hi))];rw[wT (by rw[hvs.len];omega),wT zy]
   rw[hvv];obtain⟨c1,c2⟩:=t3 w (hL.below S.below hB);refine⟨c1,c2.mono λe w' ⟨q1,q2⟩=>⟨v,K,q1,⟨KM.le_refl K,λ_ _ _=>rfl,?_⟩,a0S 8 v t2⟩⟩;subst e2;exact a5Y S ⟨q2.os,q2.tape,q2.output,q2.size,q2.block⟩|false=>rw[hb]at hm;exact h0.2 g m hm aS9 s v s' w K vs' h S hg F hvs
end
end Go.V
end
section
namespace Go.V
open Go.RowKit (Below)
section
variable {P:Program}{T:Tab}{w:World}{vs:a2C}
theorem a3z (hT:TabOk P T)(hM:P.follows .mixedOrders=true)(hng:T.ng<=vs.length)(hp:∀l∈vs,∀v∈l,plain v=true){ext}(hE:a2X P T vs ext){N}{sh}(hs:a8h P T ext N sh){n f}{fn}{c}{args}{v}{s'}(hPf:P.funcs[f]?=some fn)(hnum:(fn.name== "runtime.NumGoroutine")=false)(hb:fn.body=some c)(ha:M0 (M7 8) args=true)(hv:M7 8 v=true)(h:o8 sh n f args (a3a vs)=some (.ret v,s')):a6Q P vs f args v:=by intro w hL;have hE':=hE w.heap.size ⟨w,λ_=>True⟩ hL hL.size;refine⟨a0c hPf hnum hb,?_⟩;rcases b0H hT hM hE' hs n f args (a3a vs) (.ret v) s' w (a6b vs) args h (b0t (λ_ _=>trivial) (λ_ _=>trivial) hL hp) (b2n hng) (λi hi _=>by rw[a1H];have:vs.length<=i:=yG;rw[wT this]) (b3l ha)with⟨v1,v',w',K',_,q1,_⟩|⟨_,q⟩;rw[a0c hPf hnum hb]at q1;cases q1;refine q.mono λe w' hq=>?_;obtain⟨v',K',e1,st,r⟩:=hq;rw[e1,r.eq_of_noAddr 8 hv];exact⟨rfl,st.sim.below⟩
end
end Go.V
end
