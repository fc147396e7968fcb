import Derived.Test.YtmomonnlmbljoaaGreatDoorKae
set_option maxRecDepth 1000000
set_option maxHeartbeats 4000000
set_option linter.unusedVariables false
set_option linter.unusedSimpArgs false
noncomputable section
namespace Go.V
open Go.RowKit (Below)
section
variable {P:Program}{T:Tab}
theorem b9g {call}(n):∀c fr log s ex fr' log' s',a3z P T call n c fr log s=some ((ex,(fr',log')),s')->log<+:log':=by
 induction n with
  |zero=>intro c fr log s ex fr' log' s' h;cases h|succ n ih=>
   intro c fr log s ex fr' log' s' h;have h0:b7f P T call (a3z P T call n) c fr log s=some ((ex,(fr',log')),s'):=h;unfold b7f at h0;split at h0;grind[x8];obtain⟨r,s1,h1,h2⟩:=D6 h0;grind[x8];rename_i ca cb;cases hp:b0N ca cb with|some p=>rw[hp]at h0;obtain⟨fr1,s1,h1,h2⟩:=D6 h0;obtain⟨⟨l',vs⟩,hyo,h3⟩:=H9 h2;obtain⟨hgd,h4⟩:=I4 h3;obtain⟨u,s2,h5,h6⟩:=D6 h4;rw[a9s,E9]at h6;grind[x8]|none=>rw[hp]at h0;obtain⟨⟨x1,fr1,log1⟩,s1,h1,h2⟩:=D6 h0;have p1:=ih _ _ _ _ _ _ _ _ h1;cases x1<;>first|rfl|grind[x8]
   obtain⟨u,e1,h1⟩:=H9 h0;cases u with|bool t=>cases t<;>exact ih _ _ _ _ _ _ _ _ h1|_=>cases h1
   rename_i bid cb;obtain⟨⟨x1,fr1,log1⟩,s1,h1,h2⟩:=D6 h0;have p1:=ih _ _ _ _ _ _ _ _ h1;cases x1 with
    |normal=>grind[x8]|exit id'=>dsimp only at h2;cases hb:Nat.beq id' bid with|true=>rw[hb]at h2;grind[x8]|false=>rw[hb]at h2;grind[x8]
    |ret=>grind[x8]
   rw[a9s]at h0;obtain⟨⟨x1,fr1,log1⟩,s1,h1,h2⟩:=D6 h0;have p1:=ih _ _ _ _ _ _ _ _ h1;cases x1<;>first|rfl|grind[x8]
   grind[x8];grind[x8];cases h0
structure Ways (T:Tab) (I5:a2Q) (R:Nat→Prop) (J Jx:List (List Value)→World→Prop) (ds:List Deferred) (ex:Ex) (fr':List Value) (log':Log) (s':S) (Q:Exit→Act→World→Prop):Prop where
 on:∀ e a' w',YAt T I5 R J ds log' fr' s' a' w'→e2H ex e→Q e a' w'
 off:∀ a' w' pre,pre <+: log'.map (·.2)→Jx pre w'→a'.defers=ds→Q .ret a' w'
theorem d0K (hT:TabOk P T)(hM:P.follows .mixedOrders=true){call I5}(hC:∀B0 w0,LaidV I5 w0.w->I5.length<=B0->a5c P T B0 w0 call)(hF:∀f vs,Fr (call f vs)){R}{l m}{full}{J Jx}(hR:Rounds P R l m J Jx full)(hRv:∀k,k<I5.length->R k){ds}(n):(∀c fr log s ex fr' log' s' a w Q,a3z P T call n c fr log s=some ((ex,(fr',log')),s')->YAt T I5 R J ds log fr s a w->(∀e∈log',e.1=l)->log'.map (·.2)<+:full->Ways T I5 R J Jx ds ex fr' log' s' Q->c.wp P Q a w)/\(∀b fr log s ex fr' log' s' a w Q,a3z P T call n (.loop b) fr log s=some ((ex,(fr',log')),s')->YAt T I5 R J ds log fr s a w->(∀e∈log',e.1=l)->log'.map (·.2)<+:full->Ways T I5 R J Jx ds ex fr' log' s' Q->Code.rounds P b Q n a w):=by
 induction n with
  |zero=>constructor;intro c fr log s ex fr' log' s' a w Q h;cases h;intro b fr log s ex fr' log' s' a w Q h;cases h|succ n ih=>
   obtain⟨ihA,ihB⟩:=ih;have sub:∀{log1 log':Log},log1<+:log'->(∀e∈log',e.1=l)->log'.map (·.2)<+:full->(∀e∈log1,e.1=l)/\log1.map (·.2)<+:full:=λhp h1 h2=>⟨λe he=>h1 e (hp.subset he),(hp.map _).trans h2⟩;have hB:∀b fr log s ex fr' log' s' a w Q,a3z P T call (n+1) (.loop b) fr log s=some ((ex,(fr',log')),s')->YAt T I5 R J ds log fr s a w->(∀e∈log',e.1=l)->log'.map (·.2)<+:full->Ways T I5 R J Jx ds ex fr' log' s' Q->Code.rounds P b Q (n+1) a w:=by intro b fr log s ex fr' log' s' a w Q h hY hl hN hW;have h1:fList fr (λfr=>M.bind (a3z P T call n b fr log) λr=>match r.1 with|.normal=>a3z P T call n (.loop b) r.2.1 r.2.2|.exit id=>M.pure (.exit id,r.2)|.ret=>M.pure (.ret,r.2)) s=some ((ex,(fr',log')),s'):=h;rw[a9s]at h1;obtain⟨⟨x1,fr1,log1⟩,s1,h2,h3⟩:=D6 h1;show b.wp P (Exit.then (Code.rounds P b Q n) Q) a w;cases x1 with|normal=>have h3:a3z P T call n (.loop b) fr1 log1 s1=some ((ex,(fr',log')),s'):=h3;have hp:=b9g n _ _ _ _ _ _ _ _ h3;obtain⟨q1,q2⟩:=sub hp hl hN;refine ihA b fr log s .normal fr1 log1 s1 a w _ h2 hY q1 q2 ⟨λe a' w' y he=>?_,λa' w' pre hpre hx hd=>?_⟩;have he:e=.normal:=he;subst he;exact ihB b fr1 log1 s1 ex fr' log' s' a' w' Q h3 y hl hN hW;exact hW.off a' w' pre (hpre.trans (hp.map _)) hx hd|exit id=>have h3:M.pure (Ex.exit id,(fr1,log1)) s1=some ((ex,(fr',log')),s'):=h3;obtain⟨e,rfl⟩:=x8 h3;cases e;refine ihA b fr log s _ _ _ _ a w _ h2 hY hl hN ⟨λe a' w' y he=>?_,λa' w' pre hpre hx hd=>hW.off a' w' pre hpre hx hd⟩;have he':e=.exit id:=he;subst he';exact hW.on _ _ _ y he|ret=>have h3:M.pure (Ex.ret,(fr1,log1)) s1=some ((ex,(fr',log')),s'):=h3;obtain⟨e,rfl⟩:=x8 h3;cases e;refine ihA b fr log s _ _ _ _ a w _ h2 hY hl hN ⟨λe a' w' y he=>?_,λa' w' pre hpre hx hd=>hW.off a' w' pre hpre hx hd⟩;have he':e=.ret:=he;subst he';exact hW.on _ _ _ y he
   refine⟨λc fr log s ex fr' log' s' a w Q h hY hl hN hW=>?_,hB⟩;have h0:b7f P T call (a3z P T call n) c fr log s=some ((ex,(fr',log')),s'):=h;cases c with
    |skip=>have h0:M.pure (Ex.normal,(fr,log)) s=some ((ex,(fr',log')),s'):=h0;obtain⟨e,rfl⟩:=x8 h0;cases e;exact wp_skip (hW.on _ _ _ hY rfl)|region id ops draw=>have h0:M.bind (region P T call ops.toList draw fr) (λr=>M.pure (r.1,(r.2,log))) s=some ((ex,(fr',log')),s'):=h0;obtain⟨⟨x1,fr1⟩,s1,h1,h2⟩:=D6 h0;obtain⟨e,rfl⟩:=x8 h2;cases e;obtain⟨B0,w0,K,S,hwR,hB0,hJ,hf,hg,hds,hfr,hL0,hLB⟩:=hY;refine(c2p hT hM (hC B0 w0 hL0 hLB) hF 1).1 (.region id ops draw) fr s _ _ _ K a w Q h1 S (hfr.free _ _) hf hg λe a' w' L=>?_;obtain⟨K',st,r,d,q⟩:=L;refine hW.on e a' w' ⟨B0,w0,K',st.sim,hwR,hB0,hJ,r,hg.mono st.le,by rw[d,hds],hfr.next (Fr.region P T hF _ _ _) h1,hL0,hLB⟩ ?_;cases x1<;>exact q|seq x y=>cases hp:b0N x y with|some p=>have h0:(match b0N x y with|some p=>b0T P T call p fr log|none=>M.bind (a3z P T call n x fr log) λr=>match r.1 with|.normal=>a3z P T call n y r.2.1 r.2.2|.exit id=>M.pure (.exit id,r.2)|.ret=>M.pure (.ret,r.2)) s=some ((ex,(fr',log')),s'):=h0;rw[hp]at h0;exact b9y hT hC hF hR hRv hp h0 hY hl hN hW.on hW.off|none=>have h0:(match b0N x y with|some p=>b0T P T call p fr log|none=>M.bind (a3z P T call n x fr log) λr=>match r.1 with|.normal=>a3z P T call n y r.2.1 r.2.2|.exit id=>M.pure (.exit id,r.2)|.ret=>M.pure (.ret,r.2)) s=some ((ex,(fr',log')),s'):=h0;rw[hp]at h0;obtain⟨⟨x1,fr1,log1⟩,s1,h2,h3⟩:=D6 h0;refine wp_seq ?_;cases x1 with|normal=>have h3:a3z P T call n y fr1 log1 s1=some ((ex,(fr',log')),s'):=h3;have hp:=b9g n _ _ _ _ _ _ _ _ h3;obtain⟨q1,q2⟩:=sub hp hl hN;refine ihA x fr log s .normal fr1 log1 s1 a w _ h2 hY q1 q2 ⟨λe a' w' y' he=>?_,λa' w' pre hpre hx hd=>?_⟩;have he:e=.normal:=he;subst he;exact ihA y fr1 log1 s1 ex fr' log' s' a' w' Q h3 y' hl hN hW;exact hW.off a' w' pre (hpre.trans (hp.map _)) hx hd|exit id=>have h3:M.pure (Ex.exit id,(fr1,log1)) s1=some ((ex,(fr',log')),s'):=h3;obtain⟨e,rfl⟩:=x8 h3;cases e;refine ihA x fr log s _ _ _ _ a w _ h2 hY hl hN ⟨λe a' w' y he=>?_,λa' w' pre hpre hx hd=>hW.off a' w' pre hpre hx hd⟩;have he':e=.exit id:=he;subst he';exact hW.on _ _ _ y he|ret=>have h3:M.pure (Ex.ret,(fr1,log1)) s1=some ((ex,(fr',log')),s'):=h3;obtain⟨e,rfl⟩:=x8 h3;cases e;refine ihA x fr log s _ _ _ _ a w _ h2 hY hl hN ⟨λe a' w' y he=>?_,λa' w' pre hpre hx hd=>hW.off a' w' pre hpre hx hd⟩;have he':e=.ret:=he;subst he';exact hW.on _ _ _ y he
    |cond x c1 c2=>
     have h0:M.obind (X5 T fr x) (λv=>match v with
      |.bool t=>match t with|true=>a3z P T call n c1 fr log|false=>a3z P T call n c2 fr log
      |_=>M.fail) s=some ((ex,(fr',log')),s'):=h0;obtain⟨u,e1,h1⟩:=H9 h0;have hY':=hY;obtain⟨B0,w0,K,S,hwR,hB0,hJ,hf,hg,hds,hfr,hL0,hLB⟩:=hY';have r:=O3 hf hg e1;cases u with
      |bool t=>have hb:=b4f r;cases t<;>first|rfl|grind[wp_cond_true,wp_cond_false]
      |_=>cases h1
    |block id b=>
     have h0:M.bind (a3z P T call n b fr log) (λr=>match r.1 with
      |.normal=>M.pure (.normal,r.2)|.exit id'=>match Nat.beq id' id with|true=>M.pure (.normal,r.2)|false=>M.pure (.exit id',r.2)
      |.ret=>M.pure (.ret,r.2)) s=some ((ex,(fr',log')),s'):=h0;obtain⟨⟨x1,fr1,log1⟩,s1,h2,h3⟩:=D6 h0;refine wp_block ?_;cases x1 with
      |normal=>have h3:M.pure (Ex.normal,(fr1,log1)) s1=some ((ex,(fr',log')),s'):=h3;obtain⟨e,rfl⟩:=x8 h3;cases e;refine ihA b fr log s _ _ _ _ a w _ h2 hY hl hN ⟨λe a' w' y he=>?_,λa' w' pre hpre hx hd=>hW.off a' w' pre hpre hx hd⟩;have he':e=.normal:=he;subst he';exact hW.on _ _ _ y he|exit id'=>have h3:(match Nat.beq id' id with|true=>M.pure (Ex.normal,(fr1,log1))|false=>M.pure (Ex.exit id',(fr1,log1))) s1=some ((ex,(fr',log')),s'):=h3;cases hb:Nat.beq id' id with|true=>rw[hb]at h3;obtain⟨e,rfl⟩:=x8 h3;cases e;refine ihA b fr log s _ _ _ _ a w _ h2 hY hl hN ⟨λe a' w' y he=>?_,λa' w' pre hpre hx hd=>hW.off a' w' pre hpre hx hd⟩;have he':e=.exit id':=he;subst he';show(if id'=id then Q .normal a' w' else Q (.exit id') a' w');rw[vG (wK hb)];exact hW.on _ _ _ y rfl|false=>rw[hb]at h3;obtain⟨e,rfl⟩:=x8 h3;cases e;refine ihA b fr log s _ _ _ _ a w _ h2 hY hl hN ⟨λe a' w' y he=>?_,λa' w' pre hpre hx hd=>hW.off a' w' pre hpre hx hd⟩;have he':e=.exit id':=he;subst he';show(if id'=id then Q .normal a' w' else Q (.exit id') a' w');rw[vN (λq=>zn)];exact hW.on _ _ _ y he
      |ret=>have h3:M.pure (Ex.ret,(fr1,log1)) s1=some ((ex,(fr',log')),s'):=h3;obtain⟨e,rfl⟩:=x8 h3;cases e;refine ihA b fr log s _ _ _ _ a w _ h2 hY hl hN ⟨λe a' w' y he=>?_,λa' w' pre hpre hx hd=>hW.off a' w' pre hpre hx hd⟩;have he':e=.ret:=he;subst he';exact hW.on _ _ _ y he
    |loop b=>grind[wp_loop_rounds]|exit id=>have h0:M.pure (Ex.exit id,(fr,log)) s=some ((ex,(fr',log')),s'):=h0;obtain⟨e,rfl⟩:=x8 h0;cases e;exact wp_exit (hW.on _ _ _ hY rfl)|ret=>have h0:M.pure (Ex.ret,(fr,log)) s=some ((ex,(fr',log')),s'):=h0;obtain⟨e,rfl⟩:=x8 h0;cases e;exact wp_ret (hW.on _ _ _ hY rfl)|_=>cases h0
end
end Go.V
end
noncomputable section
namespace Go.V
open Go.RowKit (Below)
section
variable {P:Program}{T:Tab}{vs:a2Q}
theorem b3W {fn tmps w}(h:fn.results=#[]):(results fn tmps).run P w=.ok (.tuple #[]) w:=by simp_all[results]
def RB (vs:a2Q)(B:Nat):Nat->Prop:=λk=>k<vs.length\/B<=k
theorem b9H (hT:TabOk P T)(hM:P.follows .mixedOrders=true)(hng:T.ng<=vs.length)(hp:∀l∈vs,∀v∈l,plain v=true){ext}(hE:a2M P T vs ext){n m f fn c α}{enc:α->List Value}{full:List α}(hPf:P.funcs[f]?=some fn)(hb:fn.body=some c)(hres:fn.results=#[]) (hrun:∀l,∃ex fr' s',a3z P T (a7o P T ext n) n c (Value.func (.yield l) #[] #[]::List.replicate (fn.ntmps-1) undef) [] (a3p vs)=some ((ex,(fr',full.map λx=>(l,enc x))),s')/\∀id,ex≠.exit id) {w} (hL:LaidV vs w) {B} (hB:B<=w.heap.size) (hBv:vs.length<=w.heap.size):SeqStopsK Fence.wide m P f #[] (λx=>(enc x).toArray) (KeepsR (RB vs B)) (λxs=>xs=full) (λpre=>pre<+:full) full.length w:=by
 intro l J Jx W hW hJ hJx hround h0;refine pq.2 (calls_of_wp hPf hb ?_);have hLW:LaidV vs W:=hL.below hW hBv;let J0:List (List Value)->World->Prop:=λxs W=>∃pre,xs=pre.map enc/\pre<+:full/\J pre W;let Jx0:List (List Value)->World->Prop:=λxs W=>∃pre,xs=pre.map enc/\pre<+:full/\Jx pre W;have hR:Rounds P (RB vs B) l (m-1) J0 Jx0 (full.map enc):=by
  refine⟨λxs W1 W2 h hb2=>?_,λxs x W1 h hpre=>?_⟩;obtain⟨pre,e,hp1,hj⟩:=h;exact⟨pre,e,hp1,hJ pre W1 W2 none hj ⟨hb2.os,hb2.tape,hb2.output,hb2.size,λk hk _=>hb2.block k hk⟩ (λr q=>ze)⟩;obtain⟨pre,rfl,⟨rest,rfl⟩,hj⟩:=h;cases rest with
   |nil=>have:=hpre.length_le;grind|cons y ys=>
    have hx:x=enc y:=by rw[uu,List.prefix_append_right_inj]at hpre;simp_all
    subst hx;obtain⟨f0,tm,as0,bd,q1,q2⟩:=hround pre y W1 hj zq;have hp2:pre++[y]<+:pre++y::ys:=⟨ys,zq⟩;refine⟨f0,tm,as0,bd,q1,q2.mono λe W' he=>?_⟩;grind
 obtain⟨ex,fr',s',hr,hex⟩:=hrun l;have hC:∀B0 w0,LaidV vs w0.w->vs.length<=B0->a5c P T B0 w0 (a7o P T ext n):=λB0 w0 h1 h2=>b3p hT hM (hE B0 w0 h1 h2) n;have hF:∀f aS9,Fr (a7o P T ext n f aS9):=Fr.callV P T (hE W.heap.size ⟨W,λ_=>True⟩ hLW hLW.size).1 n;have hlen:(full.map λx=>(l,enc x)).map (·.2)=full.map enc:=by rw[tq];rfl
 refine(d0K hT hM hC hF hR (λk hk=>Or.inl hk) (ds:=[]) n).1 c _ [] (a3p vs) ex fr' _ s' _ W _ hr ⟨W.heap.size,⟨W,RB vs B⟩,a6a vs,?_,rfl,rfl,⟨[],rfl,List.nil_prefix,h0⟩,?_,b2m hng,rfl,?_,hLW,hLW.size⟩ ?_ (by rw[hlen];simp_all) ⟨?_,?_⟩;exact b1b (λk hk=>Or.inr (vR hB (vR hW.size hk))) (λk hk=>Or.inl hk) hLW hp;simp only[sD,rR];show VRL (a6a vs) ([Value.func (.yield l) #[] #[]]++List.replicate (fn.ntmps-1) undef) ([Value.func (.yield l) #[] #[]]++List.replicate (fn.ntmps-1) undef);refine VRL.append ⟨rfl,λi v' v h1 h2=>?_⟩ (VRL.replicate _);rw[h1]at h2;cases h2;cases i with|zero=>cases h1;exact .func rfl (λi v' v q=>by simp at q) rfl (λi v' v q=>by simp at q)|succ i=>simp at h1
 intro i hi;rw[a0K];have:vs.length<=i:=yC;rw[vg this];simp_all;intro e a' w' y he;obtain⟨B0,w0,K,S,hwR,hB0,hJ',hf,hg,hds,hfr,_,_⟩:=y;rw[hlen]at hJ';obtain⟨pre,e1,e2,hJw⟩:=hR.abides _ _ _ hJ' (by rw[<-hB0];exact S.below);have e3:pre=full:=e2.eq_of_length (by have:=vw List.length e1;grind);subst e3;have post:a'.defers=[]/\∃v,(results fn a'.tmps).run P w'=.ok v w'/\((∃u,Ending.returned v=.returned u)/\((∃xs,xs=pre/\J xs w')\/(∃pre',pre'<+:pre/\Jx pre' w'))):=⟨hds,_,b3W hres,⟨_,rfl⟩,Or.inl ⟨_,rfl,hJw⟩⟩;cases ex with|exit id=>simp_all|normal=>have he:e=.normal:=he;subst he;exact post|ret=>have he:e=.ret:=he;subst he;exact post
 intro a' w' pre hpre hx hd;obtain⟨pre',_,e2,hx⟩:=hx;exact⟨hd,_,b3W hres,⟨_,rfl⟩,Or.inr ⟨pre',e2,hx⟩⟩
end
end Go.V
end
noncomputable section
namespace Go.V
open Go.RowKit (Below)
def M7 (ext:Nat->Option (List Value->M Value))(f:Nat)(g:List Value->M Value):Nat->Option (List Value->M Value):=λi=>match Nat.beq i f with|true=>some g|false=>ext i
section
variable {P:Program}{T:Tab}{vs:a2Q}
def K3 (P:Program)(T:Tab)(vs:a2Q)(f:Nat)(g:List Value->M Value):Prop:=(∀aS9,Fr (g aS9))/\∀B0 w0,LaidV vs w0.w->vs.length<=B0->∀aS9 s v s' w K as',g aS9 s=some (v,s')->Sim B0 w0 K s.h w->GK T K->a0t K s s'->VRL K as' aS9->(∃v' w' K',(callFunc f as'.toArray).run P w=.ok (.value v') w'/\Step B0 w0 K s' w' K'/\VR K' v' v)\/((callFunc f as'.toArray).run P w=.ok (.enter f as'.toArray) w/\Calls P f as'.toArray w λe w'=>∃v' K',e=.returned v'/\Step B0 w0 K s' w' K'/\VR K' v' v)
theorem a9V {ext}(hE:a2M P T vs ext){f g}(hg:K3 P T vs f g):a2M P T vs (M7 ext f g):=by
 intro B0 w0 hL hB;have h0:=hE B0 w0 hL hB;constructor;intro i m hm aS9;unfold M7 at hm;cases hb:Nat.beq i f with|true=>rw[hb]at hm;cases hm;exact hg.1 aS9|false=>rw[hb]at hm;exact h0.1 i m hm aS9
 intro i m hm;unfold M7 at hm;cases hb:Nat.beq i f with|true=>rw[hb]at hm;cases hm;obtain rfl:=wK hb;exact hg.2 B0 w0 hL hB|false=>rw[hb]at hm;exact h0.2 i m hm
theorem a9M {K as' aS9}(h:VRL K as' aS9)(hn:J7 (K5 8) aS9=true):as'=aS9:=by
 apply ui;intro i;by_cases hi:i<aS9.length;have hi':i<as'.length:=by rw[h.len];exact hi
 have r:=h.at_ i _ _ (wO hi') (wO hi);rw[wO hi',wO hi,r.eq_of_noAddr 8 ((M5 _ _).1 hn aS9[i] (uO hi))];rw[vg (by rw[h.len];omega),vg zy]
def b6U (f:List Value->Option (List Value))(aS9:List Value):M Value:=M.obind (f aS9) λxs=>M.bind (Y9 xs) λa=>a8M (z8 xs) λn=>M.pure (.slice (some a) n 1)
theorem c2x {f:Nat}{g}(hg:∀aS9 xs,g aS9=some xs->J7 (K5 8) aS9=true/\J7 plain xs=true/\∀w,LaidV vs w->(callFunc f aS9.toArray).run P w=.ok (.enter f aS9.toArray) w/\Calls P f aS9.toArray w λe w'=>e=.returned (.slice (some ⟨w.heap.size,0,none⟩) xs.length xs.length)/\∃t,w'=w.alloc (.cells xs.toArray t)):K3 P T vs f (b6U g):=by
 refine⟨λaS9=>Fr.obind _ λxs=>Fr.bind (Fr.newCells _) λa=>?_,?_⟩;rw[a2U];exact Fr.pure _;intro B0 w0 hL hB aS9 s v s' w K as' h S hG F has;obtain⟨xs,e1,h1⟩:=H9 h;obtain⟨a,s1,h2,h3⟩:=D6 h1;rw[a2U,G8]at h3;obtain⟨e2,rfl⟩:=x8 h3;obtain⟨g1,g2,g3⟩:=hg aS9 xs e1;rw[a9M has g1];obtain⟨c1,c2⟩:=g3 w (hL.below S.below hB);refine Or.inr ⟨c1,c2.mono λe w' ⟨q1,t,q2⟩=>?_⟩;have hblk:w'.heap[w.heap.size]?=some (.cells xs.toArray t (0,0)):=by rw[q2];exact World.alloc_heap_new w _
 have hx:VRL K xs xs:=⟨rfl,λi v' v h1 h2=>by rw[h1]at h2;cases h2;exact .plain ((M5 _ _).1 g2 _ (vT h1))⟩;obtain⟨K',k1,k2,k3⟩:=a6i (rest:=[]) h2 S F hx (by rw[q2];exact Grew.alloc w _) hblk zq (λo _=>zq);refine⟨_,K',q1,k1,?_⟩;rw[e2,k3];refine VR.slice (a':=⟨w.heap.size,0,none⟩) k2 (vH _) zy (wP _) (Or.inr rfl) (Or.inr ⟨rfl,rfl,λ_=>zq⟩)
end
def b1E (l:List UInt8):List UInt8->List (List UInt8):=List.rec (motive:=λ_=>List UInt8->List (List UInt8)) (λcur=>match cur with|[]=>[]|c::cs=>[c::cs]) (λb _ ih cur=>match Lib.isSp b with
 |true=>match cur with|[]=>ih []|c::cs=>(c::cs)::ih []
 |false=>ih (E5 cur [b])) l
theorem c5S (l):∀cur,b1E l cur=Lib.fieldsGo cur l:=by induction l with|nil=>intro cur;cases cur<;>rfl|cons b l ih=>intro cur;show(match Lib.isSp b with|true=>(match cur with|[]=>b1E l []|c::cs=>(c::cs)::b1E l [])|false=>b1E l (E5 cur [b]))=_;rw[Lib.fieldsGo];cases Lib.isSp b<;>first|rfl|grind[E9]
def b1J (aS9:List Value):Option (List Value):=match aS9 with
 |[]=>none|v::rest=>match rest with
  |[]=>match v with
   |.string s=>match J7 (λb=>Nat.blt b.toNat 128) s.data.toList&&Nat.blt (z8 s.data.toList) 4294967281 with|true=>some (K4 (λl=>Value.string ⟨⟨l⟩⟩) (b1E s.data.toList []))|false=>none
   |_=>none
  |_::_=>none
theorem c4o {aS9 xs}(h:b1J aS9=some xs):∃s,aS9=[.string s]/\s.size<4294967281/\(∀(j:Nat) b,s.data.toList[j]?=some b->b.toNat<128)/\xs=(Lib.fields s.data.toList).map λl=>Value.string ⟨l.toArray⟩:=by
 unfold b1J at h;split at h;cases h;split at h;split at h;rename_i s;cases hb:J7 (λb=>Nat.blt b.toNat 128) s.data.toList&&Nat.blt (z8 s.data.toList) 4294967281 with|false=>rw[hb]at h;cases h|true=>rw[hb]at h;cases h;simp only[wI]at hb;refine⟨s,rfl,?_,λj b hj=>?_,?_⟩;have:=hb.2;rw[G8]at this;have:s.data.toList.length<4294967281:=zn;simp_all;have:=(M5 _ _).1 hb.1 b (vT hj);simp_all;rw[a0N,c5S];rfl
 cases h;cases h
end Go.V
end
section
namespace Go.V
open Go.RowKit (Below)
theorem Trie.bound {α}(t:Trie α):∃c,∀i,c<=i->t.get i=none:=by induction t with|leaf=>simp_all[Trie.get_leaf]|node v l r ihl ihr=>obtain⟨a,ha⟩:=ihl;obtain⟨b,hb⟩:=ihr;refine⟨2*a+2*b+3,λi hi=>?_⟩;obtain⟨k,rfl⟩:∃k,i=k+1:=⟨i-1,zy⟩;rw[Trie.get_node_succ];grind
def b4z (a d c:Nat):Nat->Prop:=λi=>i<c/\¬(a<=i/\i<d)
theorem b5k {P T vs}(hT:TabOk P T)(hM:P.follows .mixedOrders=true){ext}(hE:a2M P T vs ext){N}{sh}(hs:a7S P T ext N sh){f}{fn}{c}(hPf:P.funcs[f]?=some fn)(hnum:(fn.name== "runtime.NumGoroutine")=false)(hb:fn.body=some c){g}(hFr:∀aS9,Fr (g aS9))(h:∀aS9 s v s1,g aS9 s=some (v,s1)->∀c',s.c<=c'->s1.c<=c'->(∀i,c'<=i->s.h.get i=none)->∃n v2 s2 m,o9 sh n f aS9 ⟨c',s.h,s.r,s.w⟩=some (.ret v2,s2)/\View (b4z s.c s1.c c') m s.h s1.h s2.h/\VRen (b4z s.c s1.c c') m v v2/\∀i,s1.c<=i->i<c'->s2.h.get i=s.h.get i):K3 P T vs f g:=by
 refine⟨hFr,?_⟩;intro B0 w0 hL hB aS9 s v s1 w K as' hg S hG F has;have hE':=hE B0 w0 hL hB;obtain⟨c0,hc0⟩:=Trie.bound s.h;obtain⟨dr,dw,_,_,hle1,_,hdw,_,hkeep,_⟩:=hFr aS9 s v s1 hg;obtain⟨n,v2,s2,m,hrun,hV,hv,hfor⟩:=h aS9 s v s1 hg (c0+s.c+s1.c) zy zy (λi hi=>hc0 i zy);generalize hc':c0+s.c+s1.c=c' at hrun hV hv hfor;have hbig:∀i,c'<=i->s.h.get i=none:=λi hi=>hc0 i zy;refine Or.inr ⟨V5 hPf hnum hb,?_⟩;rcases b0U hT hM hE' hs n f aS9 ⟨c',s.h,s.r,s.w⟩ (.ret v2) s2 w K as' hrun S hG (λi hi _=>hbig i hi) has with⟨v1,v',w',K',_,q1,_⟩|⟨_,q⟩;rw[V5 hPf hnum hb]at q1;cases q1;refine q.mono λe w' hq=>?_;obtain⟨v',K2,e1,st,r⟩:=hq;have hn:∀b x,m b=some x->¬b4z s.c s1.c c' b:=λb x e=>(hV.new b x.1 x.2 e).1;have hob:∀b o,s.h.get b=some o->b4z s.c s1.c c' b:=λb o ho=>by refine⟨?_,λhx=>?_⟩;grind;rw[F b hx.1 hx.2]at ho;cases ho
 refine⟨v',KR (b4z s.c s1.c c') m K2,e1,⟨λb g' l hk=>?_,λi g' hi=>?_,e1M hV S st.le hob st.sim⟩,VR.ren hn hv r⟩;obtain⟨o,ho⟩:=S.dom2 b g' l hk;rw[a6e (hob b o ho)];exact st.le b g' l hk;by_cases hlt:i<c';rw[a6e ⟨hlt,zy⟩];exact c9w S st.sim st.le (hfor i hi hlt) g';have hsn:s.h.get i=none:=hbig i zy;rw[S.none hsn g'];cases hk:KR (b4z s.c s1.c c') m K2 i g' with|none=>rfl|some l=>rcases b6b hk with⟨hb',_⟩|⟨_,_,b2,g2,hm,_⟩;exact absurd hb'.1 hlt;obtain⟨_,_,cs,ds,e2,_⟩:=hV.new i b2 g2 hm;have:s1.h.get i=s.h.get i:=hkeep i (λhx=>by have:=hdw i hx;omega);rw[this,hsn]at e2;cases e2
end Go.V
end
noncomputable section
namespace Go.V
def upd (h:Trie VObj)(i:Nat)(o:VObj):Trie VObj:=Trie.put (some o) (i+1) h i
theorem c4X (h i o j):(upd h i o).get j=if j=i then some o else h.get j:=Trie.get_put _ _ _ _ (wG _) _
theorem b2c {h i o j}(e:j=i):(upd h i o).get j=some o:=by rw[c4X,vG e]
theorem d9 {h i o j}(e:j≠i):(upd h i o).get j=h.get j:=by rw[c4X,vN e]
theorem o7 (h i o):(upd h i o).get i=some o:=b2c rfl
section
variable {α β:Type}(c:Nat)(h:Trie VObj)(r w:List Nat)
theorem f0b (m:M α)(f:α->M β):M.bind m f ⟨c,h,r,w⟩=match m ⟨c,h,r,w⟩with|none=>none|some x=>f x.1 x.2:=wH rfl rfl
theorem f0X (a:α):M.pure a ⟨c,h,r,w⟩=some (a,⟨c,h,r,w⟩):=wH rfl rfl
theorem b3w (i:Nat):rd i ⟨c,h,r,w⟩=match Nat.blt i c with
 |true=>match h.get i with|some o=>some (o,⟨c,h,i::r,w⟩)|none=>none
 |false=>none:=wH rfl rfl
theorem b1u (i:Nat)(o:VObj):wr i o ⟨c,h,r,w⟩=match Nat.blt i c with
 |true=>match h.get i with|some _=>some ((),⟨c,upd h i o,r,i::w⟩)|none=>none
 |false=>none:=by unfold wr;cases Nat.blt i c with|false=>rfl|true=>cases h.get i with|none=>rfl|some _=>simp only;rw[Trie.putK_eq];rfl
theorem c5j (o):new o ⟨c,h,r,w⟩=some (c,⟨c+1,upd h c o,r,c::w⟩):=by rw[b3V];rfl
theorem c1e (m:M α):M.foot m ⟨c,h,r,w⟩=match m ⟨c,h,[],[]⟩with|none=>none|some x=>some ((x.1,(x.2.r,x.2.w)),⟨x.2.c,x.2.h,E5 x.2.r r,E5 x.2.w w⟩):=wH rfl rfl
end
theorem P5 {α}(a:α):M.foot (M.pure a)=M.pure (a,([],[])):=wH rfl rfl
theorem F6 {α β}(a)(f:α->M β):M.obind (some a) f=f a:=wH rfl rfl
theorem P8 {α}(m:M α):M.guard true m=m:=wH rfl rfl
theorem b3m {α}(a:α):M.lift (some a)=M.pure a:=wH rfl rfl
theorem a4M {α}(l:List α):E5 [] l=l:=wH rfl rfl
theorem a5e {α}(x:α)(l m):E5 (x::l) m=x::E5 l m:=wH rfl rfl
theorem a5w {α}(cs cur ro)(k:List (Value×Nat)->Nat->Bool->M α):a7M (.cells cs cur ro) k=k cs cur ro:=wH rfl rfl
theorem a3G {α}(a)(k:Addr->M α):a0C (.pointer (some a)) k=k a:=wH rfl rfl
theorem I1 {a b}(h:a<b):Nat.blt a b=true:=zn
theorem a1N {a b:Nat}(h:a<=b):Nat.ble a b=true:=uI h
theorem a0x {a b:Nat}(h:a≠b):Nat.beq a b=false:=by cases q:Nat.beq a b<;>simp_all
theorem P9 (a:Nat):Nat.beq a a=true:=zq
theorem a7v (a:Nat):Nat.ble 0 a=true:=wH rfl rfl
theorem a0e (g cs):q9 g cs 0=some []:=by cases cs<;>rfl
theorem a1E (g:Nat)(v:Value)(st:Nat)(cs:List (Value×Nat))(n:Nat):q9 g ((v,st)::cs) (n+1)=match Nat.ble st g with
 |true=>match q9 g cs n with|some vs=>some (v::vs)|none=>none
 |false=>none:=wH rfl rfl
theorem a0f {α}(l:List α):G7 l 0=l:=by cases l<;>rfl
theorem a7G {α}(x:α)(l n):G7 (x::l) (n+1)=G7 l n:=wH rfl rfl
theorem c4B {α}(l:List α):a0B l 0=[]:=by cases l<;>rfl
theorem c5l {α}(x:α)(l n):a0B (x::l) (n+1)=x::a0B l n:=wH rfl rfl
theorem a4L {α β}(f:α->β):K4 f []=[]:=wH rfl rfl
theorem a3K {α β}(f:α->β)(x l):K4 f (x::l)=f x::K4 f l:=wH rfl rfl
theorem a6v {α}:z8 ([]:List α)=0:=wH rfl rfl
theorem a0Y {α}(x:α)(l):z8 (x::l)=z8 l+1:=wH rfl rfl
theorem a7t {α}(f:α->Bool):J7 f []=true:=wH rfl rfl
theorem P7 {α}(x:α)(l):a0k (x::l) 0=some x:=wH rfl rfl
theorem P6 {α}(x:α)(l n):a0k (x::l) (n+1)=a0k l n:=wH rfl rfl
theorem a2F (g cs):a3k g [] cs=cs:=wH rfl rfl
theorem a2i (g v vs c cs):a3k g (v::vs) (c::cs)=(v,g)::a3k g vs cs:=wH rfl rfl
theorem a4x (g vs c cs):a2h g vs (c::cs) 0=some (a3k g vs (c::cs)):=wH rfl rfl
theorem b2G (g:Nat)(vs:List Value)(c:Value×Nat)(cs:List (Value×Nat))(n:Nat):a2h g vs (c::cs) (n+1)=match a2h g vs cs n with|some cs'=>some (c::cs')|none=>none:=wH rfl rfl
def l9 {α:Type}(r:Option (α×S))(Q:α->S->Prop):Prop:=∃a s,r=some (a,s)/\Q a s
theorem l9.mono {α}{r:Option (α×S)}{Q R}(h:l9 r Q)(k:∀a s,Q a s->R a s):l9 r R:=let⟨a,s,e,q⟩:=h;⟨a,s,e,k a s q⟩
theorem l9.pure {α}{a:α}{s Q}(h:Q a s):l9 (M.pure a s) Q:=⟨a,s,rfl,h⟩
theorem l9.some {α}{a:α}{s Q}(h:Q a s):l9 (Option.some (a,s)) Q:=⟨a,s,rfl,h⟩
theorem l9.bind {α β m}{f:α->M β}{s P Q}(h:l9 (m s) P)(k:∀a s',P a s'->l9 (f a s') Q):l9 (M.bind m f s) Q:=by obtain⟨a,s',e,p⟩:=h;show l9 (match m s with|none=>none|Option.some x=>f x.1 x.2) Q;rw[e];grind
abbrev a0U:=List Nat×List Nat
section
variable (p:Program)(T:Tab)
def c5n (v:Value)(vs:List Value)(k:Nat->List Value->M Value):M Value:=match v with
 |.func fn first captured=>match fn with|.func g=>k g (E5 first.toList (E5 vs captured.toList))|_=>M.fail
 |_=>M.fail
def b2O (call:Nat->List Value->M Value)(ops:List Oper)(fr:List Value)(o:Oper):M (Value×a0U):=bcase (a1Y ops fr o) (M.foot (Z4 p T call fr o.op)) (M.pure (undef,([],[])))
def a3q {β:Type}(call:Nat->List Value->M Value)(ops os:List Oper):List Value->List a0U->(List Value->List a0U->M β)->M β:=List.rec (motive:=λ_=>List Value->List a0U->(List Value->List a0U->M β)->M β) (λfr acc k=>k fr acc) (λo _ ih fr acc k=>M.bind (b2O p T call ops fr o) λx=>ih (Q3 fr o x.1) (E5 acc [x.2]) k) os
theorem d4b {β}(call ops):∀(os) (fr) (acc) (k:List Value->List a0U->M β),M.bind (a2t p T call ops os fr) (λy=>k y.1 (acc++y.2))=a3q p T call ops os fr acc k:=by
 intro os;induction os with
  |nil=>intro fr acc k;show M.bind (M.pure (fr,[])) _=k fr acc;rw[V.e8n,wF]|cons o os ih=>
   intro fr acc k;show M.bind (match a1Y ops fr o with|true=>M.bind (M.foot (Z4 p T call fr o.op)) λx=>a8s x.1 λv=>M.bind (a2t p T call ops os (Q3 fr o v)) λy=>M.pure (y.1,x.2::y.2)|false=>M.bind (a2t p T call ops os (Q3 fr o undef)) λy=>M.pure (y.1,([],[])::y.2)) _=M.bind (b2O p T call ops fr o) λx=>a3q p T call ops os (Q3 fr o x.1) (E5 acc [x.2]) k;have key:∀(v:Value) (F:a0U),M.bind (M.bind (a2t p T call ops os (Q3 fr o v)) λy=>M.pure (y.1,F::y.2)) (λy=>k y.1 (acc++y.2))=a3q p T call ops os (Q3 fr o v) (E5 acc [F]) k:=by grind[a2f,E9,V.e8n]
   grind[b2O,D8,a2f,a8A,A8,V.e8n]
theorem d2z (call ops n U vs W):b7n p T call ops n U vs W=a3q p T (a2a call) ops ops (L9 U vs (a0l n)) [] λfr F=>M.guard (a3f ops (a4N ops F) [] [] 0) (M.pure (.normal,O8 fr W)):=by rw[<-d4b];rfl
end
def b7u (ops:List Oper)(pj:List Nat)(j:Nat)(y:Oper)(xs:List Oper):Nat->Option (List (Nat×Nat)):=List.rec (motive:=λ_=>Nat->Option (List (Nat×Nat))) (λ_=>some []) (λx _ ih i=>match a2V i pj with
 |true=>ih (i+1)|false=>match a0d (a2O x) (a3C ops y)&&a0d (a2O x) (a2O y)&&a0d (a2O y) (a3C ops x)with
  |true=>match ih (i+1)with|some L=>some ((i,j)::L)|none=>none
  |false=>none) xs
def b6Z (ops ys:List Oper):List Oper->List (List Nat)->Nat->Option (List (Nat×Nat)):=List.rec (motive:=λ_=>List Oper->List (List Nat)->Nat->Option (List (Nat×Nat))) (λ_ _ _=>some []) (λy _ ih xs ps n=>match a7C n y.after.toList with
 |true=>match b7u ops (a4T (a5W ps) y.after.toList) n y xs 0 with
  |some L=>match ih (E5 xs [y]) (E5 ps [a4T (a5W ps) y.after.toList]) (n+1)with|some L'=>some (E5 L L')|none=>none
  |none=>none
 |false=>none) ys
def a5a (x y:a0U):Bool:=a0d x.2 y.1&&a0d x.2 y.2&&a0d y.2 x.1
def a1c (L:List (Nat×Nat))(F:List a0U):Bool:=J7 (λij=>match a0k F ij.1 with
 |some x=>match a0k F ij.2 with|some y=>a5a x y|none=>false
 |none=>false) L
theorem d1I {ops pj j}{y:Oper×a0U}{F}(hy:F[j]?=some y.2):∀(xs:List (Oper×a0U)) (i) (L),b7u ops pj j y.1 (xs.map (·.1)) i=some L->(∀(k) (x),xs[k]?=some x->F[i+k]?=some x.2)->a7E ops pj y xs i=a1c L F:=by
 intro xs;induction xs with
  |nil=>intro i L h _;cases h;rfl|cons x xs ih=>
   intro i L h hF;have h':(match a2V i pj with
    |true=>b7u ops pj j y.1 (xs.map (·.1)) (i+1)|false=>match a0d (a2O x.1) (a3C ops y.1)&&a0d (a2O x.1) (a2O y.1)&&a0d (a2O y.1) (a3C ops x.1)with
     |true=>match b7u ops pj j y.1 (xs.map (·.1)) (i+1)with|some L=>some ((i,j)::L)|none=>none
     |false=>none)=some L:=h;show(match a2V i pj||free2 ops x y with|true=>a7E ops pj y xs (i+1)|false=>false)=a1c L F;have hF':∀(k:Nat) (x:Oper×a0U),xs[k]?=some x->F[i+1+k]?=some x.2:=λk z hz=>by have:=hF (k+1) z zo;rw[show i+1+k=i+(k+1) by omega];exact this
   cases hm:a2V i pj with
    |true=>rw[hm]at h';rw[uV];grind|false=>
     rw[hm]at h';simp only at h';split at h';rename_i hst;split at h';rename_i L' hL';cases h';have hx:=hF 0 x rfl;rw[vC]at hx;have e1:a1c ((i,j)::L') F=(a5a x.2 y.2&&a1c L' F):=by grind[a1c,U5,a2T]
     have e2:free2 ops x y=a5a x.2 y.2:=by simp_all[free2,a5a]
     rw[e1,e2,vE,<-ih (i+1) L' hL' hF'];cases a5a x.2 y.2<;>rfl;cases h';cases h'
theorem c9O (L L' F):a1c (E5 L L') F=(a1c L F&&a1c L' F):=by grind[a1c,E9,c5r]
theorem d7g {ops F}:∀(ys xs:List (Oper×a0U)) (ps) (n) (L),xs.length=n->(∀(k:Nat) (x),(xs++ys)[k]?=some x->F[k]?=some x.2)->b6Z ops (ys.map (·.1)) (xs.map (·.1)) ps n=some L->a3f ops ys xs ps n=a1c L F:=by
 intro ys;induction ys with
  |nil=>intro xs ps n L _ _ h;cases h;rfl|cons y ys ih=>
   intro xs ps n L hn hF h;have h':(match a7C n y.1.after.toList with
    |true=>match b7u ops (a4T (a5W ps) y.1.after.toList) n y.1 (xs.map (·.1)) 0 with
     |some L=>match b6Z ops (ys.map (·.1)) (E5 (xs.map (·.1)) [y.1]) (E5 ps [a4T (a5W ps) y.1.after.toList]) (n+1)with|some L'=>some (E5 L L')|none=>none
     |none=>none
    |false=>none)=some L:=h;show(match a7C n y.1.after.toList&&a7E ops (a4T (a5W ps) y.1.after.toList) y xs 0 with|true=>a3f ops ys (E5 xs [y]) (E5 ps [a4T (a5W ps) y.1.after.toList]) (n+1)|false=>false)=_;split at h';rename_i he;split at h';rename_i L1 h1;split at h';rename_i L2 h2;cases h';have hy:F[n]?=some y.2:=hF n y (by rw[vV zy,hn];simp);have hp:=d1I hy xs 0 L1 h1 (λk x hx=>by rw[vY];grind);rw[he,hp,c9O,<-ih (E5 xs [y]) (E5 ps [a4T (a5W ps) y.1.after.toList]) (n+1) L2 (by rw[E9];simp[hn]) (λk x hx=>hF k x (by rw[E9]at hx;grind)) (by rw[E9 xs,uu];rw[E9 (xs.map _)]at h2;exact h2),uK];cases a1c L1 F<;>rfl;cases h';cases h';cases h'
theorem d0i {α β}:∀(l:List α) (m:List β),z8 m=z8 l->(a4N l m).map (·.1)=l/\(∀(k:Nat) x,(a4N l m)[k]?=some x->m[k]?=some x.2):=by intro l;induction l with|nil=>intro m _;exact⟨rfl,λk x h=>by simp[a4N]at h⟩|cons a l ih=>intro m hm;cases m with|nil=>simp[G8]at hm|cons b m=>obtain⟨h1,h2⟩:=ih m (by grind[G8]);refine⟨by simp_all[a4N],λk x hx=>?_⟩;cases k with|zero=>have:some (a,b)=some x:=hx;grind|succ k=>exact h2 k x hx
theorem d6E {ops L}(h:b6Z ops ops [] [] 0=some L){F:List a0U}(hl:z8 F=z8 ops):a3f ops (a4N ops F) [] [] 0=a1c L F:=by obtain⟨h1,h2⟩:=d0i ops F hl;exact d7g (a4N ops F) [] [] 0 L rfl (λk x hx=>h2 k x hx) (by rw[h1];exact h)
end Go.V
end
noncomputable section
namespace Go.V
def vO (fr:List Value):Operand->Value|.tmp t=>D5 fr t|.const v=>v|.global g=>.pointer (some ⟨g,0,some 0⟩)|.func f=>.func (.func f) #[] #[]
def vL (fr:List Value)(os:List Operand):List Value:=K4 (vO fr) os
section
variable (T:Tab)
def okO:Operand->Bool|.const v=>K5 3 v|.global g=>Nat.blt g T.ng|_=>true
def okL (os:List Operand):Bool:=J7 (okO T) os
def a7f (t:TypeId):Option Nat:=(T.types.get t).map (·.size)
def c9Q (t:TypeId):Option Nat:=match T.types.get t with
 |some i=>match Nat.beq i.size 0 with|true=>none|false=>some i.size
 |none=>none
def a9c (t:TypeId):Option (Option Nat):=match T.types.get t with
 |some i=>match b0m i.und with
  |true=>match Nat.beq i.size 0 with|true=>none|false=>some (some i.size)
  |false=>some none
 |none=>none
def c8Y (t:TypeId):Option (List Value):=match T.types.get t with
 |some i=>match K5 8 i.zero&& !(a2W i.zero.cells.toList)with|true=>some i.zero.cells.toList|false=>none
 |none=>none
def c2M (t:TypeId)(f:Nat):Option (Nat×TypeId):=match T.types.get t with
 |some i=>match i.und with
  |.struct fs=>match a0k fs.toList f with|some fd=>some (fd.offset,fd.type)|none=>none
  |_=>none
 |none=>none
def d4C (t:TypeId)(f:Nat):Option Nat:=match c2M T t f with
 |some x=>match c9Q T x.2 with|some _=>some x.1|none=>none
 |none=>none
def b6G (t:TypeId)(f:Nat):Option (Nat×Option Nat):=match c2M T t f with
 |some x=>match T.types.get x.2 with
  |some i=>match b0m i.und with|true=>some (x.1,some i.size)|false=>some (x.1,none)
  |none=>none
 |none=>none
def b8s (t:TypeId):Option Nat:=match T.types.get t with
 |some i=>match i.und with|.slice e=>a7f T e|_=>none
 |none=>none
def e0o (t:TypeId):Option (Nat×Nat):=match T.types.get t with
 |some i=>match i.und with
  |.array n e=>match a7f T e with|some s=>some (s,n)|none=>none
  |_=>none
 |none=>none
def a7D (t:TypeId):Bool:=match T.types.get t with
 |some i=>match i.und with|.string=>true|_=>false
 |none=>false
def c5Q (t:TypeId):Option IntKind:=match T.types.get t with
 |some i=>match i.und with|.int k=>some k|_=>none
 |none=>none
def e2O (t:TypeId):Bool:=(T.types.get t).isSome
def c5b (t:TypeId):Bool:=match T.types.get t with|some i=>!(c1p i.und)|none=>false
def d4X (t:TypeId):Bool:=match T.types.get t with|some i=>c3a i.und|none=>false
def a5n (place:Nat->Option (Nat×Nat))(qs:List (Nat×Operand)):Option (List (Nat×Nat)):=List.rec (motive:=λ_=>Option (List (Nat×Nat))) (some []) (λq _ ih=>match place q.1 with|none=>none|some os=>match ih with|none=>none|some l=>some (os::l)) qs
def c5t (t:TypeId)(ps:List (Nat×Operand)):Option (List (Nat×Nat)×List Value):=match T.types.get t with
 |some i=>match K5 8 i.zero with
  |true=>match i.und with
   |.struct fields=>match J7 (b9M T) fields.toList with|true=>(a5n (a5F T fields.toList) ps).map λl=>(l,i.zero.cells.toList)|false=>none
   |.array _ elem=>match a7f T elem with|some n=>(a5n (a2e n) ps).map λl=>(l,i.zero.cells.toList)|none=>none
   |_=>none
  |false=>none
 |none=>none
def b9p (t:TypeId)(len:Nat)(ps:List (Nat×Operand)):Option (Nat×List (Nat×Nat)×List Value):=match T.types.get t with
 |some i=>match i.und with
  |.slice elem=>match T.types.get elem with
   |some e=>match Nat.beq (z8 e.zero.cells.toList) e.size&& !(Nat.beq e.size 0)&&K5 8 e.zero&&Nat.ble (len*e.size) 16777216 with|true=>(a5n (a2e e.size) ps).map λl=>(e.size,l,a5P e.zero.cells.toList len)|false=>none
   |none=>none
  |_=>none
 |none=>none
def d5J (tys:List TypeId):Option TypeId:=match tys with
 |[st,xt]=>match T.types.get st with
  |some i=>match i.und with
   |.slice e=>match T.types.get xt with
    |some d=>match T.types.get e with
     |some te=>match !b3Y d.und&& !(Nat.beq te.size 0)with|true=>some e|false=>none
     |none=>none
    |none=>none
   |_=>none
  |none=>none
 |_=>none
def a7x (t:TypeId):TI:=match T.types.get t with|some i=>i|none=>⟨.bool,0,0,undef⟩
end
section
variable {p:Program}{T:Tab}{fr:List Value}
theorem a5t {x}(h:okO T x=true):X5 T fr x=some (vO fr x):=by cases x with|const v=>have h:K5 3 v=true:=h;unfold X5;simp only[h];rfl|global g=>have h:Nat.blt g T.ng=true:=h;unfold X5;simp only[h];rfl|_=>rfl
theorem b5D {os}(h:okL T os=true):a0R T fr os=some (vL fr os):=by induction os with|nil=>rfl|cons o os ih=>unfold okL at h;rw[U5,wI]at h;show(match X5 T fr o with|none=>none|some v=>match a0R T fr os with|none=>none|some vs=>some (v::vs))=_;rw[a5t h.1,ih h.2];rfl
theorem a0y {x}(h:okO T x=true)(k):ev T fr x k=k (vO fr x):=by unfold ev;rw[a5t h];rfl
theorem a4w {x}(h:okL T x=true)(k):evs T fr x k=k (vL fr x):=by unfold evs;rw[b5D h];rfl
theorem a0F {α}{t:TypeId}{i}(h:T.types.get t=some i)(k:TI->M α):ti T t k=k i:=by unfold ti;rw[h];rfl
theorem d9x {c a b}(h:okL T [c,a,b]=true):O4 p T fr (.pick c a b)=a4u (vO fr c) (vO fr a) (vO fr b):=by simp only[okL,U5,wI]at h;show b0p T fr c a b=_;unfold b0p;rw[a0y h.1,a0y h.2.1,a0y h.2.2.1];rfl
theorem d7Y {t zs}(h:c8Y T t=some zs):O4 p T fr (.alloc t)=d2g zs:=by show b4L T t=_;unfold c8Y at h;cases e:T.types.get t with|none=>rw[e]at h;cases h|some i=>rw[e]at h;simp only at h;split at h;rename_i q;cases h;unfold b4L;rw[a0F e,q];rfl;cases h
theorem e4V {t x}(h:okO T x=true):O4 p T fr (.box t x)=a8J (vO fr x):=by show b2w T fr x=_;unfold b2w;rw[a0y h];rfl
theorem b8z {place}:∀{ps} {os},(a5n place ps=some os)->∀(vs cs),a8c place ps vs cs=a5R os vs cs:=by intro ps;induction ps with|nil=>intro os h vs cs;cases h;rfl|cons q ps ih=>intro os h vs cs;have h:(match place q.1 with|none=>none|some os=>match a5n place ps with|none=>none|some l=>some (os::l))=some os:=h;cases e:place q.1 with|none=>rw[e]at h;cases h|some o=>rw[e]at h;cases e2:a5n place ps with|none=>rw[e2]at h;cases h|some l=>rw[e2]at h;cases h;cases vs with|nil=>rfl|cons v vs=>show(match place q.1 with|none=>none|some os=>match Nat.beq (z8 v.cells.toList) os.2&&Nat.ble (os.1+os.2) (z8 cs)with|true=>a8c place ps vs (a3h v.cells.toList cs os.1)|false=>none)=_;rw[e];simp only[ih e2];rfl
theorem d6x {t ps os zs}(h:c5t T t ps.toList=some (os,zs))(ho:okL T (K4 (·.2) ps.toList)=true):O4 p T fr (.build t ps)=d0c os (vL fr (K4 (·.2) ps.toList)) zs:=by
 show a8W T fr t ps=_;unfold a8W;rw[a4w ho];unfold c5t at h;cases e:T.types.get t with
  |none=>rw[e]at h;cases h|some i=>
   rw[e]at h;rw[a0F e];simp only at h⊢;split at h;rename_i q;rw[q];show(match i.und with|.struct fields=>_|.array _ elem=>_|_=>M.fail)=_;split at h;rename_i fields qu;split at h;rename_i qa;rw[qa];cases e2:a5n (a5F T fields.toList) ps.toList with|none=>rw[e2]at h;cases h|some l=>rw[e2]at h;cases h;show M.obind (a8c _ _ _ _) _=_;rw[b8z e2];rfl
   cases h;rename_i n elem qu;cases e3:T.types.get elem with|none=>grind[a7f]|some te=>rw[a0F e3];simp only[a7f,e3,Option.map]at h;cases e2:a5n (a2e te.size) ps.toList with|none=>rw[e2]at h;cases h|some l=>rw[e2]at h;cases h;rw[b8z e2];rfl
   cases h;cases h
theorem d0W {t len ps n os zs}(h:b9p T t len ps.toList=some (n,os,zs))(ho:okL T (K4 (·.2) ps.toList)=true):O4 p T fr (.buildSlice t len ps)=b5M n len os (vL fr (K4 (·.2) ps.toList)) zs:=by
 show a3R T fr t len ps=_;unfold a3R;rw[a4w ho];unfold b9p at h;cases e:T.types.get t with
  |none=>rw[e]at h;cases h|some i=>
   rw[e]at h;rw[a0F e];simp only at h⊢;split at h;rename_i elem qu;rw[qu];simp only;cases e3:T.types.get elem with
    |none=>rw[e3]at h;cases h|some te=>
     rw[e3]at h;rw[a0F e3];simp only at h;split at h;rename_i qa;rw[qa];cases e2:a5n (a2e te.size) ps.toList with|none=>rw[e2]at h;cases h|some l=>rw[e2]at h;cases h;show M.obind (a8c _ _ _ _) _=_;rw[b8z e2];rfl
     cases h
   cases h
theorem d6U {t x}(h:a9c T t=some none)(ho:okO T x=true):O4 p T fr (.load t x)=a7e (vO fr x):=by show a7Z T fr t x=_;grind[a7Z,a0y,a9c,a7e,a4R,a0F]
theorem d7W {t x n}(h:a9c T t=some (some n))(ho:okO T x=true):O4 p T fr (.load t x)=b1A n (vO fr x):=by show a7Z T fr t x=_;unfold a7Z;rw[a0y ho];unfold a9c at h;cases e:T.types.get t with|none=>rw[e]at h;cases h|some i=>rw[e]at h;simp only at h;split at h;rename_i q;split at h;cases h;rename_i q2;cases h;unfold b1A;congr 1;funext a;unfold a4R;rw[a0F e,q,q2];rfl;cases h
theorem d7i {t x y n}(h:a7f T t=some n)(ho:okL T [x,y]=true):O4 p T fr (.store t x y)=a9C n (vO fr x) (vO fr y):=by simp only[okL,U5,wI]at ho;show a8T T fr t x y=_;unfold a8T;rw[a0y ho.1,a0y ho.2.1];unfold a7f at h;cases e:T.types.get t<;>first|rfl|grind[a9C,b7J,a0F]
theorem e5G {x}(ho:okO T x=true):O4 p T fr (.nilCheck x)=e3j (vO fr x):=by show a5q T fr x=_;unfold a5q;rw[a0y ho];rfl
theorem e7T {op t t' x y}(ho:okL T [x,y]=true):O4 p T fr (.binOp op t x y t')=a0L p T op t x y (vO fr x) (vO fr y):=by simp only[okL,U5,wI]at ho;show b2n p T fr op t x y=_;unfold b2n;rw[a0y ho.1,a0y ho.2.1];rfl
theorem e9y {op t x}(ho:okO T x=true):O4 p T fr (.unOp op t x)=xUn p op (vO fr x):=by show b5O p T fr op x=_;unfold b5O;rw[a0y ho];rfl
theorem d6k {s d x k}(h:c5Q T d=some k)(hs:e2O T s=true)(ho:okO T x=true):O4 p T fr (.convert s d x)=c1j k (vO fr x):=by show a4t T fr s d x=_;unfold a4t;rw[a0y ho];unfold c5Q at h;unfold e2O at hs;cases e:T.types.get d with|none=>rw[e]at h;cases h|some i=>rw[e]at h;cases e2:T.types.get s with|none=>rw[e2]at hs;cases hs|some j=>simp only at h;unfold b2S;rw[a0F e2,a0F e];split at h;rename_i q;cases h;rw[q];rfl;cases h
theorem d8D {s d x}(h:c5Q T d=none)(ho:okO T x=true):O4 p T fr (.convert s d x)=b2S T s d (vO fr x):=by show a4t T fr s d x=_;grind[a4t,a0y]
theorem d8l {t x}(h:c5b T t=true)(ho:okO T x=true):O4 p T fr (.makeInterface t x)=M.pure (.iface t (vO fr x)):=by show a8Y T fr t x=_;unfold a8Y;rw[a0y ho];unfold c5b at h;cases e:T.types.get t with|none=>rw[e]at h;cases h|some i=>rw[e]at h;rw[a0F e];simp only at h;rw[h];rfl
theorem e0h {fn a b}(h:okL T a.toList=true)(h':okL T b.toList=true):O4 p T fr (.makeFunc fn a b)=d5w fn (vL fr a.toList) (vL fr b.toList):=by show b0E T fr fn a b=_;unfold b0E;rw[a4w h,a4w h'];rfl
theorem e3u {t}:O4 p T fr (.makeMap t none)=c8c:=rfl
theorem e1t {t x}(h:d4X T t=true)(ho:okO T x=true):O4 p T fr (.makeMap t (some x))=e5j (vO fr x):=by show b2E T fr t (some x)=_;unfold b2E;simp only;rw[a0y ho];unfold d4X at h;cases e:T.types.get t with|none=>rw[e]at h;cases h|some i=>rw[e]at h;rw[a0F e];simp only at h;rw[h];rfl
theorem e1I {t l c}(ho:okL T [l,c]=true):O4 p T fr (.makeSlice t l c)=b2f T t (vO fr l) (vO fr c):=by simp only[okL,U5,wI]at ho;show b0n T fr t l c=_;grind[b0n,a0y]
theorem c2A {t x lo hi}(ho:okO T x=true)(h1:okL T lo.toList=true)(h2:okL T hi.toList=true):O4 p T fr (.slice t x lo hi none)=b3X T t (vO fr x) (lo.map (vO fr)) (hi.map (vO fr)) none:=by show a8G T fr t x lo hi none=_;unfold a8G;rw[a4w h1,a4w h2];show evs T fr [] _=_;rw[a4w rfl,a0y ho];cases lo<;>cases hi<;>rfl
theorem d2q {t x lo hi}(h:a7D T t=true)(ho:okO T x=true)(h1:okL T lo.toList=true)(h2:okL T hi.toList=true):O4 p T fr (.slice t x lo hi none)=a5H (vO fr x) (lo.map (vO fr)) (hi.map (vO fr)):=by rw[c2A ho h1 h2];unfold a7D at h;cases e:T.types.get t with|none=>rw[e]at h;cases h|some i=>rw[e]at h;unfold b3X;rw[a0F e];simp only at h;split at h;rename_i q;rw[q];rfl;cases h
theorem d3E {t x lo hi n}(h:b8s T t=some n)(ho:okO T x=true)(h1:okL T lo.toList=true)(h2:okL T hi.toList=true):O4 p T fr (.slice t x lo hi none)=a7N n (vO fr x) (lo.map (vO fr)) (hi.map (vO fr)):=by
 rw[c2A ho h1 h2];unfold b8s at h;cases e:T.types.get t with
  |none=>rw[e]at h;cases h|some i=>
   rw[e]at h;unfold b3X;rw[a0F e];simp only at h;split at h;rename_i el q;rw[q];unfold a7f at h;cases e2:T.types.get el with
    |none=>rw[e2]at h;cases h|some j=>
     rw[e2]at h;cases h;unfold a7N;show(match vO fr x with
      |.slice a len es=>ti T el λe=>match a with|some a=>M.guard (Nat.beq es e.size)<|cut T a len el _ _|none=>M.guard (Nat.beq len 0)<|cutNil _ _
      |_=>M.fail)=_;cases vO fr x<;>first|rfl|grind[a0F,cut,cutN]
   cases h
theorem f0U {t x f n}(h:d4C T t f=some n)(ho:okO T x=true):O4 p T fr (.fieldAddr t x f)=xFA n (vO fr x):=by
 show a4H T fr t x f=_;unfold a4H;rw[a0y ho];unfold d4C c2M at h;cases e:T.types.get t with
  |none=>rw[e]at h;cases h|some i=>
   rw[e]at h;unfold b2t;rw[a0F e];simp only at h;cases u:i.und with
    |struct fs=>rw[u]at h;simp only at h⊢;cases g:a0k fs.toList f with|none=>rw[g]at h;cases h|some fd=>rw[g]at h;simp only[c9Q]at h;cases e2:T.types.get fd.type with|none=>rw[e2]at h;cases h|some j=>rw[e2]at h;simp only at h;cases q:Nat.beq j.size 0 with|true=>rw[q]at h;cases h|false=>rw[q]at h;cases h;unfold xFA;congr 1;funext a;show ti T fd.type _=_;rw[a0F e2,q];rfl
    |_=>rw[u]at h;cases h
theorem f0e {t x f n}(h:b6G T t f=some (n,none))(ho:okO T x=true):O4 p T fr (.field t x f)=xF1 n (vO fr x):=by
 show a6D T fr t x f=_;unfold a6D;rw[a0y ho];unfold b6G c2M at h;cases e:T.types.get t with
  |none=>rw[e]at h;cases h|some i=>
   rw[e]at h;rw[a0F e];simp only at h;cases u:i.und with
    |struct fs=>rw[u]at h;simp only at h⊢;cases g:a0k fs.toList f with|none=>rw[g]at h;cases h|some fd=>rw[g]at h;simp only at h;cases e2:T.types.get fd.type with|none=>rw[e2]at h;cases h|some j=>rw[e2]at h;simp only at h;split at h;cases h;rename_i q;cases h;unfold xF1;cases vO fr x with|agg cs=>show partV T _ _ _=_;grind[partV,a0F]|_=>rfl
    |_=>rw[u]at h;cases h
theorem e8P {t x f n m}(h:b6G T t f=some (n,some m))(ho:okO T x=true):O4 p T fr (.field t x f)=xFN n m (vO fr x):=by
 show a6D T fr t x f=_;unfold a6D;rw[a0y ho];unfold b6G c2M at h;cases e:T.types.get t with
  |none=>rw[e]at h;cases h|some i=>
   rw[e]at h;rw[a0F e];simp only at h;cases u:i.und with
    |struct fs=>
     rw[u]at h;simp only at h⊢;cases g:a0k fs.toList f with
      |none=>rw[g]at h;cases h|some fd=>
       rw[g]at h;simp only at h;cases e2:T.types.get fd.type with
        |none=>rw[e2]at h;cases h|some j=>
         rw[e2]at h;simp only at h;split at h;rename_i q;cases h;unfold xFN;cases vO fr x with|agg cs=>show partV T _ _ _=_;grind[partV,a0F]|_=>rfl
         cases h
    |_=>rw[u]at h;cases h
theorem e5H {t x i n}(h:b8s T t=some n)(ho:okL T [x,i]=true):O4 p T fr (.indexAddr t x i)=a6U n (vO fr x) (vO fr i):=by
 simp only[okL,U5,wI]at ho;show a3c T fr t x i=_;unfold a3c;rw[a0y ho.1,a0y ho.2.1];unfold b8s at h;cases e:T.types.get t with
  |none=>rw[e]at h;cases h|some d=>
   rw[e]at h;unfold a9W;rw[a0F e];simp only at h;cases u:d.und with
    |slice el=>rw[u]at h;simp only[a7f]at h;cases e2:T.types.get el with|none=>rw[e2]at h;cases h|some j=>rw[e2]at h;cases h;unfold a6U;congr 1;funext k;show(match vO fr x with|.slice a len es=>M.obind a λa=>ti T el λe=>M.guard (Nat.beq es e.size)<|elemAt T a k len el|_=>M.fail)=_;cases vO fr x<;>first|rfl|grind[a0F,elemAt,elemAtN]
    |_=>rw[u]at h;cases h
theorem e4y {t x i n m}(h:e0o T t=some (n,m))(ho:okL T [x,i]=true):O4 p T fr (.indexAddr t x i)=c7E n m (vO fr x) (vO fr i):=by
 simp only[okL,U5,wI]at ho;show a3c T fr t x i=_;unfold a3c;rw[a0y ho.1,a0y ho.2.1];unfold e0o at h;cases e:T.types.get t with
  |none=>rw[e]at h;cases h|some d=>
   rw[e]at h;unfold a9W;rw[a0F e];simp only at h;cases u:d.und with
    |array len el=>rw[u]at h;simp only[a7f]at h;cases e2:T.types.get el<;>first|rfl|grind[c7E,elemAt,elemAtN,a0F]
    |_=>rw[u]at h;cases h
theorem d9v {t x i}(h:a7D T t=true)(ho:okL T [x,i]=true):O4 p T fr (.index t x i)=b6W (vO fr x) (vO fr i):=by simp only[okL,U5,wI]at ho;show a8N T fr t x i=_;grind[a8N,a0y,a7D,b6W,a0F]
theorem d1E {t x i ok}(ho:okL T [x,i]=true):O4 p T fr (.lookup t x i ok)=b1L T t (vO fr x) (vO fr i) ok:=by simp only[okL,U5,wI]at ho;show a7w T fr t x i ok=_;grind[a7w,a0y]
theorem d4x {t m k x}(ho:okL T [m,k,x]=true):O4 p T fr (.mapUpdate t m k x)=b7Z T t (vO fr m) (vO fr k) (vO fr x):=by simp only[okL,U5,wI]at ho;show a4a T fr t m k x=_;unfold a4a;rw[a0y ho.1,a0y ho.2.1,a0y ho.2.2.1];rfl
theorem e5T {t m k x}(ho:okL T [m,k,x]=true):O4 p T fr (.insert t m k x)=b7Z T t (vO fr m) (vO fr k) (vO fr x):=d4x (p:=p) ho
theorem e5e {x i}(ho:okO T x=true):O4 p T fr (.extract x i)=d9P i (vO fr x):=by show a6m T fr x i=_;unfold a6m;rw[a0y ho];rfl
theorem d6v {t x}(h:a7D T t=true)(ho:okO T x=true):O4 p T fr (.range t x)=e0z (vO fr x):=by show a8B T fr t x=_;unfold a8B;rw[a0y ho];unfold a7D at h;cases e:T.types.get t with|none=>rw[e]at h;cases h|some d=>rw[e]at h;simp only at h;split at h;rename_i q;rw[a0F e,q];rfl;cases h
theorem e1l {x}(ho:okO T x=true):O4 p T fr (.next x true)=e5w (vO fr x):=by show b0l T fr x true=_;unfold b0l;show ev T fr x _=_;rw[a0y ho];rfl
theorem e2L {x t}(h:a7D T t=true)(ho:okO T x=true):a0J p T fr .len #[x] #[t]=a7T (vO fr x):=by unfold a0J;rw[a4w (by show okL T [x]=true;unfold okL;rw[U5,ho];rfl)];unfold a7D at h;cases e:T.types.get t with|none=>rw[e]at h;cases h|some d=>rw[e]at h;simp only at h;split at h;rename_i q;show ti T t _=_;rw[a0F e,q];rfl;cases h
theorem d9d {x t n}(h:b8s T t=some n)(ho:okO T x=true):a0J p T fr .len #[x] #[t]=b2F (vO fr x):=by unfold a0J;rw[a4w (by show okL T [x]=true;unfold okL;rw[U5,ho];rfl)];unfold b8s at h;cases e:T.types.get t with|none=>rw[e]at h;cases h|some d=>rw[e]at h;simp only at h;split at h;rename_i q;show ti T t _=_;rw[a0F e,q];rfl;cases h
theorem e6d {s x a b e}(h:d5J T [a,b]=some e)(ho:okL T [s,x]=true):a0J p T fr .append #[s,x] #[a,b]=a4c (a7x T e) (vO fr s) (vO fr x):=by
 unfold a0J;rw[a4w zy];show M.guard true (appendV T _ _)=_;show ti T a (λd=>ti T b λdx=>_)=_;unfold d5J at h;simp only at h;cases e1:T.types.get a with
  |none=>rw[e1]at h;cases h|some i=>
   rw[e1]at h;simp only at h;cases u:i.und with
    |slice el=>rw[u]at h;simp only at h;cases e2:T.types.get b with|none=>rw[e2]at h;cases h|some d=>rw[e2]at h;simp only at h;cases e3:T.types.get el with|none=>rw[e3]at h;cases h|some te=>rw[e3]at h;simp only at h;split at h;rename_i q;cases h;rw[a0F e1,a0F e2,u];show ti T e _=_;rw[a0F e3,q];unfold a7x;rw[e3];rfl;cases h
    |_=>rw[u]at h;cases h
theorem e7u {a ts}(ho:okL T a.toList=true):a0J p T fr .max a ts=c3z p ts (vL fr a.toList):=by unfold a0J;rw[a4w ho];rfl
theorem e5k {a ts}(ho:okL T a.toList=true):a0J p T fr .min a ts=f1x p ts (vL fr a.toList):=by unfold a0J;rw[a4w ho];rfl
end
end Go.V
end
noncomputable section
namespace Go.V
theorem d2J:a0l 0=[]:=wH rfl rfl
theorem d3h (n):a0l (n+1)=undef::a0l n:=wH rfl rfl
theorem s_0 (v l x):a4W (v::l) 0 x=x::l:=wH rfl rfl
theorem s_s (v l i x):a4W (v::l) (i+1) x=v::a4W l i x:=wH rfl rfl
theorem e8W (a0 a1 a2 a3 a4 a5 a6 a7 a8 a9 a10 a11 a12 a13 a14 a15 l i):D5 (a0::a1::a2::a3::a4::a5::a6::a7::a8::a9::a10::a11::a12::a13::a14::a15::l) (i+16)=D5 l i:=wH rfl rfl
theorem e9m (a0 a1 a2 a3 a4 a5 a6 a7 a8 a9 a10 a11 a12 a13 a14 a15 l i x):a4W (a0::a1::a2::a3::a4::a5::a6::a7::a8::a9::a10::a11::a12::a13::a14::a15::l) (i+16) x=a0::a1::a2::a3::a4::a5::a6::a7::a8::a9::a10::a11::a12::a13::a14::a15::a4W l i x:=wH rfl rfl
theorem f0y (f:Operand->Value)(x):Option.map f (some x)=some (f x):=wH rfl rfl
theorem e9o (f:Operand->Value):Option.map f none=none:=wH rfl rfl
theorem c7g (fr):O8 fr []=[]:=wH rfl rfl
theorem c3G (fr i W):O8 fr (i::W)=D5 fr i::O8 fr W:=wH rfl rfl
theorem c4k (vs fr i):a5L vs [] i fr=fr:=wH rfl rfl
theorem c3o (vs fr t W i):a5L vs (t::W) i fr=a5L vs W (i+1) (a4W fr t (D5 vs i)):=wH rfl rfl
theorem c9W (vs fr W):L9 W vs fr=a5L vs W 0 fr:=wH rfl rfl
theorem e0b (fr)(t:Nat):vO fr (.tmp t)=D5 fr t:=wH rfl rfl
theorem d8U (fr k n m)(h:n=m):vO fr (.const (.int k n))=.int k m:=by rw[<-h];rfl
theorem d4g (fr v)(h:b6O v=false):vO fr (.const v)=v:=wH rfl rfl
theorem c9f (fr g):vO fr (.global g)=.pointer (some ⟨g,0,some 0⟩):=wH rfl rfl
theorem d8a (fr)(f:Nat):vO fr (.func f)=.func (.func f) #[] #[]:=wH rfl rfl
theorem d9b (fr):vL fr []=[]:=wH rfl rfl
theorem d8y (fr o os):vL fr (o::os)=vO fr o::vL fr os:=wH rfl rfl
def a5N (d:Option Nat)(fr:List Value)(v:Value):List Value:=match d with|some t=>a4W fr t v|none=>fr
theorem d1p (t fr v):a5N (some t) fr v=a4W fr t v:=wH rfl rfl
theorem d0p (fr v):a5N none fr v=fr:=wH rfl rfl
theorem d9U (v):a8a [v]=v:=wH rfl rfl
theorem e1e:a8a []=.tuple ⟨[]⟩:=wH rfl rfl
theorem e2o (v w vs):a8a (v::w::vs)=.tuple ⟨v::w::vs⟩:=wH rfl rfl
def b5o:Op->Bool|.move _=>false|.assign _=>false|.call _=>false|.panic _=>false|_=>true
section
variable {p:Program}{T:Tab}{cb:Cb}{N:Nat}{call:J4}{β:Type}{fr:List Value}{k:Xc->List Value->M β}{d:Option Nat}{ty:TypeId}{pos:String}{af:Array Edge}{g:Option (Nat×Bool)}{os:List Oper}
theorem b9X:a0p p T cb false call [] fr k=k .normal fr:=rfl
theorem d9C {x}(h:okO T x=true):a0p p T cb false call (⟨d,.move x,ty,pos,af,g⟩::os) fr k=a0p p T cb false call os (a5N d fr (vO fr x)) k:=by show M.obind (X5 T fr x) _=_;rw[a5t h];cases d<;>rfl
theorem d2r {x}(h:okO T x=true):a0p p T cb false call (⟨d,.assign x,ty,pos,af,g⟩::os) fr k=a0p p T cb false call os (a5N d fr (vO fr x)) k:=by show M.obind (X5 T fr x) _=_;rw[a5t h];cases d<;>rfl
theorem d4k {o}(h:b5o o=true):a0p p T cb false call (⟨d,o,ty,pos,af,g⟩::os) fr k=cb.bv β (O4 p T fr o) λv=>a0p p T cb false call os (a5N d fr v) k:=by cases d<;>cases o<;>first|rfl|cases h
theorem d8G {f:Nat}{a ts}(h:okL T a.toList=true):a0p p T cb false call (⟨d,.call ⟨.value (.func f),a,ts⟩,ty,pos,af,g⟩::os) fr k=cb.bc β (call f (vL fr a.toList)) (λv=>a0p p T cb false call os (a5N d fr v) k) noP:=by
 show M.obind (a4Z T fr (.func f) a.toList) _=_;have:a4Z T fr (.func f) a.toList=some (f,vL fr a.toList):=by unfold a4Z;rw[b5D h];show some (f,E5 [] (E5 (vL fr a.toList) []))=_;rw[a4M,E9,wF]
 rw[this];cases d<;>rfl
theorem d6n {f a ts}(hf:okO T f=true)(h:okL T a.toList=true):a0p p T cb false call (⟨d,.call ⟨.value f,a,ts⟩,ty,pos,af,g⟩::os) fr k=M.obind (b1x (vO fr f) (vL fr a.toList)) λga=>cb.bc β (call ga.1 ga.2) (λv=>a0p p T cb false call os (a5N d fr v) k) noP:=by
 show M.obind (a4Z T fr f a.toList) _=_;have:a4Z T fr f a.toList=b1x (vO fr f) (vL fr a.toList):=by grind[a4Z,b5D,a5t]
 rw[this];cases d<;>rfl
theorem c9B {b a ts}:a0p p T cb false call (⟨d,.call ⟨.builtin b,a,ts⟩,ty,pos,af,g⟩::os) fr k=cb.bv β (a0J p T fr b a ts) λv=>a0p p T cb false call os (a5N d fr v) k:=by cases d<;>rfl
theorem d7S {x}(h:okO T x=true):a0p p T cb false call (⟨d,.panic x,ty,pos,af,g⟩::os) fr k=M.guard (a5u (vO fr x)) M.fail:=by show M.obind (X5 T fr x) _=_;rw[a5t h];rfl
def a5Y (g:Option (Nat×Bool)):List Oper->List Oper|[]=>[]|o::os=>match a4s g o.guard with|true=>o::a5Y g os|false=>[]
def a7W (g:Option (Nat×Bool)):List Oper->List Oper|[]=>[]|o::os=>match a4s g o.guard with|true=>a7W g os|false=>o::os
theorem d1m {a b}(h:a4s a b=true):a=b:=by
 cases a with
  |none=>cases b with|none=>rfl|some b=>cases h
  |some a=>cases b with|none=>cases h|some b=>simp only[a4s,wI,nP]at h;rw[show a=b from Prod.ext (wK h.1) h.2]
theorem b5a:∀(os) (o),a1X (o::os)=(o.guard,o::a5Y o.guard os)::a1X (a7W o.guard os):=by intro os;induction os with|nil=>intro o;rfl|cons o2 os ih=>intro o;have hs:a1X (o::o2::os)=(match a1X (o2::os)with|[]=>[(o.guard,[o])]|g::gs=>match a4s o.guard g.1 with|true=>(g.1,o::g.2)::gs|false=>(o.guard,[o])::g::gs):=rfl;rw[hs,ih o2];grind[a5Y,a7W,d1m]
def b2x (p:Program)(T:Tab)(cb:Cb)(call:J4){β:Type}(g:Option (Nat×Bool))(os:List Oper)(fr:List Value)(k:Xc->List Value->M β):M β:=a0p p T cb false call (a5Y g os) fr k
def a9J (p:Program)(T:Tab)(cb:Cb)(call:J4){β:Type}(ops:List Oper)(g:Option (Nat×Bool))(os:List Oper)(fr:List Value)(k:Xc->List Value->M β):M β:=a8g p T cb false call ops (a1X (a7W g os)) fr k
theorem e5o {o}:a0p p T cb false call (o::os) fr k=a0p p T cb false call [o] fr λex fr'=>V3 ex (a0p p T cb false call os fr' k) (λ_=>M.fail) M.fail λ_=>M.fail:=za
theorem c0M:b2x p T cb call g [] fr k=k .normal fr:=rfl
theorem b6i {o g'}(h:a4s g g'=true):b2x p T cb call g (⟨d,o,ty,pos,af,g'⟩::os) fr k=a0p p T cb false call [⟨d,o,ty,pos,af,g'⟩] fr λex fr'=>V3 ex (b2x p T cb call g os fr' k) (λ_=>M.fail) M.fail λ_=>M.fail:=by
 have e:a5Y g (⟨d,o,ty,pos,af,g'⟩::os)=⟨d,o,ty,pos,af,g'⟩::a5Y g os:=by rw[a5Y];grind
 unfold b2x;rw[e];exact e5o
theorem b6N {o g'}(h:a4s g g'=false):b2x p T cb call g (⟨d,o,ty,pos,af,g'⟩::os) fr k=k .normal fr:=by
 have e:a5Y g (⟨d,o,ty,pos,af,g'⟩::os)=[]:=by rw[a5Y];grind
 unfold b2x;rw[e];rfl
theorem c0G {ops}:a9J p T cb call ops g [] fr k=k .normal fr:=rfl
theorem b7y {ops o g'}(h:a4s g g'=true):a9J p T cb call ops g (⟨d,o,ty,pos,af,g'⟩::os) fr k=a9J p T cb call ops g os fr k:=by
 have e:a7W g (⟨d,o,ty,pos,af,g'⟩::os)=a7W g os:=by rw[a7W];grind
 grind[a9J]
theorem b6F {ops o}(h:a4s g none=false):a9J p T cb call ops g (⟨d,o,ty,pos,af,none⟩::os) fr k=b2x p T cb call none (⟨d,o,ty,pos,af,none⟩::os) fr λex fr'=>V3 ex (a9J p T cb call ops none os fr' k) (λ_=>M.fail) M.fail λv=>k (.pan v) fr':=by unfold a9J;rw[show a7W g (⟨d,o,ty,pos,af,none⟩::os)=⟨d,o,ty,pos,af,none⟩::os by rw[a7W];grind,b5a];rfl
theorem b6J {ops o}{j z t:Nat}{b D}(h:a4s g (some (j,b))=false)(hj:a4A ops j=some t)(hD:O1 (⟨d,o,ty,pos,af,some (j,b)⟩::a5Y (some (j,b)) os)=D)(hm:a2V t D=false)(hz:z8 D=z):a9J p T cb call ops g (⟨d,o,ty,pos,af,some (j,b)⟩::os) fr k=cb.bj β (bcase (a1W b (D5 fr t)) (b2x p T cb call (some (j,b)) (⟨d,o,ty,pos,af,some (j,b)⟩::os) fr λex fr'=>M.pure (ex,O8 fr' D)) (M.pure (.normal,a0l z))) λex vs=>V3 ex (a9J p T cb call ops (some (j,b)) os (L9 D vs fr) k) (λ_=>M.fail) M.fail noP:=by
 have hs:a5Y (some (j,b)) (⟨d,o,ty,pos,af,some (j,b)⟩::os)=⟨d,o,ty,pos,af,some (j,b)⟩::a5Y (some (j,b)) os:=by
  have:a4s (some (j,b)) (some (j,b))=true:=by simp[a4s]
  rw[a5Y];simp_all
 unfold a9J b2x;rw[show a7W g (⟨d,o,ty,pos,af,some (j,b)⟩::os)=⟨d,o,ty,pos,af,some (j,b)⟩::os by rw[a7W];grind,b5a,hs];show M.obind (a4A ops j) _=_;rw[hj];show M.guard (!(a2V t (O1 (⟨d,o,ty,pos,af,some (j,b)⟩::a5Y (some (j,b)) os)))) _=_;rw[hD,hm,<-hz];rfl
def b2M (ops:List Oper):Bool:=J7 (λo=>o.guard.isNone) ops
theorem c2f:∀(ops),b2M ops=true->a1X ops=[]/\ops=[]\/a1X ops=[(none,ops)]:=by
 intro ops;induction ops with
  |nil=>intro _;exact Or.inl ⟨rfl,rfl⟩|cons o os ih=>
   intro h;unfold b2M at h;rw[U5,wI]at h;have hg:o.guard=none:=by simpa using h.1
   have hs:a1X (o::os)=(match a1X os with|[]=>[(o.guard,[o])]|g::gs=>match a4s o.guard g.1 with|true=>(g.1,o::g.2)::gs|false=>(o.guard,[o])::g::gs):=rfl;right;rcases ih h.2 with⟨q,rfl⟩|q;rw[hs,hg];rfl;rw[hs,q,hg];rfl
theorem d7j {ops:Array Oper}(h:b2M ops.toList=true):b8A p T cb false call ops.toList false fr k=a0p p T cb false call ops.toList fr k:=by show a8g p T cb false call ops.toList (a1X ops.toList) fr k=_;rcases c2f _ h with⟨q,e⟩|q;rw[q,e];rfl;rw[q];show a0p p T cb false call ops.toList fr (λex fr'=>V3 ex (k .normal fr') (λ_=>M.fail) M.fail λv=>k (.pan v) fr')=_;generalize ops.toList=l;induction l generalizing fr with|nil=>rfl|cons o os ih=>obtain⟨d,o,ty,pos,af,g⟩:=o;show a4g p T cb call fr o (λv=>a0p p T cb false call os (Q3 fr _ v) _) _=a4g p T cb call fr o (λv=>a0p p T cb false call os (Q3 fr _ v) _) _;congr 1;funext v;exact ih
variable {id:Nat}{ops:Array Oper}{pl pa pb:Pl}{a b:Code}{W E:List Nat}
theorem b6e:N9 p T cb false N call .skip pl β fr k=k .normal fr:=rfl
theorem b4d (h:b2M ops.toList=true):N9 p T cb false N call (.region id ops false) pl β fr k=a0p p T cb false call ops.toList fr k:=d7j h
theorem b2R:N9 p T cb false N call (.region id ops false) pl β fr k=a8g p T cb false call ops.toList (a1X ops.toList) fr k:=rfl
theorem c0D {ops}:a8g p T cb false call ops (a1X []) fr k=k .normal fr:=rfl
theorem b6x {ops o}:a8g p T cb false call ops (a1X (⟨d,o,ty,pos,af,none⟩::os)) fr k=a9J p T cb call ops (some (0,true)) (⟨d,o,ty,pos,af,none⟩::os) fr k:=rfl
theorem b6M {ops o j b}:a8g p T cb false call ops (a1X (⟨d,o,ty,pos,af,some (j,b)⟩::os)) fr k=a9J p T cb call ops none (⟨d,o,ty,pos,af,some (j,b)⟩::os) fr k:=rfl
def b2T (L:List (Nat×Nat))(F:List a0U):Bool:=a1c L F
theorem I9 {α L F}{m:M α}(h:a1c L F=true):M.guard (b2T L F) m=m:=by unfold b2T;rw[h];rfl
theorem b6H {c ops F}{q:List Value->List a0U->M β}:a3q p T c ops [] fr F q=q fr F:=rfl
theorem d7r {c ops F}{q:List Value->List a0U->M β}{o}:a3q p T c ops (⟨d,o,ty,pos,af,none⟩::os) fr F q=M.bind (M.foot (Z4 p T c fr o)) λx=>a3q p T c ops os (a5N d fr x.1) (E5 F [x.2]) q:=by cases d<;>rfl
theorem d6A {c ops F}{q:List Value->List a0U->M β}{o}{j t:Nat}{b}(h:a4A ops j=some t):a3q p T c ops (⟨d,o,ty,pos,af,some (j,b)⟩::os) fr F q=M.bind (bcase (a1W b (D5 fr t)) (M.foot (Z4 p T c fr o)) (M.pure (undef,([],[])))) λx=>a3q p T c ops os (a5N d fr x.1) (E5 F [x.2]) q:=by
 have e:b2O p T c ops fr ⟨d,o,ty,pos,af,some (j,b)⟩=bcase (a1W b (D5 fr t)) (M.foot (Z4 p T c fr o)) (M.pure (undef,([],[]))):=by grind[b2O,a1Y]
 have e0:∀o:Oper,a3q p T c ops (o::os) fr F q=M.bind (b2O p T c ops fr o) λx=>a3q p T c ops os (Q3 fr o x.1) (E5 F [x.2]) q:=λ_=>rfl;rw[e0,e];cases d<;>rfl
theorem d8j {c x}(h:okO T x=true):Z4 p T c fr (.move x)=M.pure (vO fr x):=by show M.lift (X5 T fr x)=_;rw[a5t h];rfl
theorem d0N {c x}(h:okO T x=true):Z4 p T c fr (.assign x)=M.pure (vO fr x):=by show M.lift (X5 T fr x)=_;rw[a5t h];rfl
theorem c9F {c o}(h:b5o o=true):Z4 p T c fr o=O4 p T fr o:=by cases o<;>first|rfl|cases h
theorem c7z {c b a ts}:Z4 p T c fr (.call ⟨.builtin b,a,ts⟩)=a0J p T fr b a ts:=rfl
theorem d7s {c}{f:Nat}{a ts}(h:okL T a.toList=true):Z4 p T c fr (.call ⟨.value (.func f),a,ts⟩)=c f (vL fr a.toList):=by show a5i T fr (.func f) a.toList c=_;unfold a5i;rw[a0y rfl,a4w h];show c f (E5 [] (E5 (vL fr a.toList) []))=_;rw[a4M,E9,wF]
theorem d2b {c}{f:Nat}{a ts}(h:okL T a.toList=true):Z4 p T c fr (.call ⟨.value (.tmp f),a,ts⟩)=c5n (D5 fr f) (vL fr a.toList) c:=by show a5i T fr (.tmp f) a.toList c=_;unfold a5i;rw[a0y rfl,a4w h];rfl
theorem c3Y {c ops}{q q':List Value->List a0U->M β}:∀(os) (fr) (F),(∀fr G,z8 G=z8 F+z8 os->q fr G=q' fr G)->a3q p T c ops os fr F q=a3q p T c ops os fr F q':=by intro os;induction os with|nil=>intro fr F h;exact h fr F za|cons o os ih=>intro fr F h;have e0:∀q:List Value->List a0U->M β,a3q p T c ops (o::os) fr F q=M.bind (b2O p T c ops fr o) λx=>a3q p T c ops os (Q3 fr o x.1) (E5 F [x.2]) q:=λ_=>rfl;rw[e0,e0];grind[G8,E9]
theorem b7l {n U D L}(hL:b6Z ops.toList ops.toList [] [] 0=some L)(hn:z8 fr=n)(hU:a2Y (a4E ops.toList ops.toList)=U)(hD:O1 ops.toList=D):N9 p T cb false N call (.region id ops true) pl β fr k=cb.bj β (a3q p T (a2a call) ops.toList ops.toList (L9 U (O8 fr U) (a0l n)) [] λfr' F=>M.guard (b2T L F) (M.pure (.normal,O8 fr' D))) λ_ vs=>k .normal (L9 D vs fr):=by rw[<-hn,<-hU,<-hD];show cb.bj β (b7n p T call ops.toList _ _ _ _) _=_;rw[d2z];congr 1;refine c3Y _ _ _ λfr G hG=>?_;rw[d6E hL (by rw[hG];simp[G8])];rfl
def b8n (p:Program)(T:Tab)(cb:Cb)(N:Nat)(call:J4){β:Type}(b:Code)(pb:Pl)(k:Xc->List Value->M β):Xc->List Value->M β:=λex fr'=>V3 ex (N9 p T cb false N call b pb β fr' k) (λid=>k (.exit id) fr') (k .ret fr') (λv=>k (.pan v) fr')
theorem b6j:N9 p T cb false N call (.seq a b) .d β fr k=N9 p T cb false N call a .d β fr (b8n p T cb N call b .d k):=rfl
theorem b5Y:N9 p T cb false N call (.seq a b) (.s none pa pb) β fr k=N9 p T cb false N call a pa β fr (b8n p T cb N call b pb k):=rfl
theorem b6r:N9 p T cb false N call (.seq a b) (.l W pa) β fr k=N9 p T cb false N call a pa β fr (b8n p T cb N call b .d k):=rfl
theorem k_n:b8n p T cb N call b pb k .normal fr=N9 p T cb false N call b pb β fr k:=rfl
theorem k_e {i}:b8n p T cb N call b pb k (.exit i) fr=k (.exit i) fr:=rfl
theorem k_r:b8n p T cb N call b pb k .ret fr=k .ret fr:=rfl
theorem c5A {r}(hs:b0B (a0G a) W=true)(hE:a2Y (a2E a)=E)(hr:hasRet a=r):N9 p T cb false N call (.seq a b) (.s (some W) pa pb) β fr k=cb.bj β (N9 p T cb false N call a pa (Xc×List Value) fr λex fr'=>M.pure (ex,O8 fr' W)) λex vs=>V3 ex (N9 p T cb false N call b pb β (L9 W vs fr) k) (λid=>a4k E id λx=>k x (L9 W vs fr)) (bcase r (k .ret (L9 W vs fr)) M.fail) noP:=by rw[<-hE,<-hr];show M.guard (b0B (a0G a) W) _=_;rw[hs];rfl
theorem b4A (hs:b0B (a0G a) W=true)(hE:a2Y (a2E a)=E)(hr:hasRet a=true):N9 p T cb false N call (.seq a b) (.s (some W) pa pb) β fr k=cb.bj β (N9 p T cb false N call a pa (Xc×List Value) fr λex fr'=>M.pure (ex,O8 fr' W)) λex vs=>V3 ex (N9 p T cb false N call b pb β (L9 W vs fr) k) (λid=>a4k E id λx=>k x (L9 W vs fr)) (k .ret (L9 W vs fr)) noP:=c5A hs hE hr
theorem b4u (hs:b0B (a0G a) W=true)(hE:a2Y (a2E a)=E)(hr:hasRet a=false):N9 p T cb false N call (.seq a b) (.s (some W) pa pb) β fr k=cb.bj β (N9 p T cb false N call a pa (Xc×List Value) fr λex fr'=>M.pure (ex,O8 fr' W)) λex vs=>V3 ex (N9 p T cb false N call b pb β (L9 W vs fr) k) (λid=>a4k E id λx=>k x (L9 W vs fr)) M.fail noP:=c5A hs hE hr
def b5p {β:Type}(id:Nat)(k:Xc->List Value->M β):Xc->List Value->M β:=λex fr'=>k (a6c id ex) fr'
theorem b2J:N9 p T cb false N call (.block id b) .d β fr k=N9 p T cb false N call b .d β fr (b5p id k):=rfl
theorem b2d {j}:N9 p T cb false N call (.block id b) (.s j pa pb) β fr k=N9 p T cb false N call b pa β fr (b5p id k):=rfl
theorem b2b:N9 p T cb false N call (.block id b) (.l W pa) β fr k=N9 p T cb false N call b pa β fr (b5p id k):=rfl
theorem c7S:b5p id k .normal fr=k .normal fr:=rfl
theorem c5R:b5p id k .ret fr=k .ret fr:=rfl
theorem c6N {i:Nat}(h:Nat.beq i id=true):b5p id k (.exit i) fr=k .normal fr:=ww
theorem c6b {i:Nat}(h:Nat.beq i id=false):b5p id k (.exit i) fr=k (.exit i) fr:=ww
theorem c5k {r}(hs:b0B (a0G b) W=true)(hE:a2Y (a2E b)=E)(hr:hasRet b=r):N9 p T cb false N call (.loop b) (.l W pa) β fr k=cb.bj β (cb.lp (λxs=>N9 p T cb false N call b pa (Xc×List Value) (L9 W xs fr) λex fr'=>M.pure (ex,O8 fr' W)) N (O8 fr W)) λex vs=>V3 ex M.fail (λid=>a4k E id λx=>k x (L9 W vs fr)) (bcase r (k .ret (L9 W vs fr)) M.fail) noP:=by rw[<-hE,<-hr];show M.guard (b0B (a0G b) W) _=_;rw[hs];rfl
theorem b4l (hs:b0B (a0G b) W=true)(hE:a2Y (a2E b)=E)(hr:hasRet b=true):N9 p T cb false N call (.loop b) (.l W pa) β fr k=cb.bj β (cb.lp (λxs=>N9 p T cb false N call b pa (Xc×List Value) (L9 W xs fr) λex fr'=>M.pure (ex,O8 fr' W)) N (O8 fr W)) λex vs=>V3 ex M.fail (λid=>a4k E id λx=>k x (L9 W vs fr)) (k .ret (L9 W vs fr)) noP:=c5k hs hE hr
theorem b4p (hs:b0B (a0G b) W=true)(hE:a2Y (a2E b)=E)(hr:hasRet b=false):N9 p T cb false N call (.loop b) (.l W pa) β fr k=cb.bj β (cb.lp (λxs=>N9 p T cb false N call b pa (Xc×List Value) (L9 W xs fr) λex fr'=>M.pure (ex,O8 fr' W)) N (O8 fr W)) λex vs=>V3 ex M.fail (λid=>a4k E id λx=>k x (L9 W vs fr)) M.fail noP:=c5k hs hE hr
theorem b6n:N9 p T cb false N call (.exit id) pl β fr k=k (.exit id) fr:=rfl
theorem c0S:N9 p T cb false N call .ret pl β fr k=k .ret fr:=rfl
theorem b6X {i}{k:Xc->M β}:a4k [] i k=M.fail:=rfl
theorem b4y {i e}{k:Xc->M β}:a4k (e::E) i k=bcase (Nat.beq i e) (k (.exit e)) (a4k E i k):=rfl
def a6P:Code->Pl->List (Code×List Nat×Pl)|.seq a b,pl=>a6P a pl.a++a6P b pl.b|.cond _ a b,pl=>a6P a pl.a++a6P b pl.b|.block _ b,pl=>a6P b pl.a|.loop b,pl=>(b,pl.w,pl.a)::a6P b pl.a|_,_=>[]
def lq (p:Program)(T:Tab)(cb:Cb)(N:Nat)(call:J4)(f:Func)(pl:Pl)(i:Nat)(S:List Nat)(vs xs:List Value):M (Xc×List Value):=match a0k (a6P (b0y f) pl) i with|some x=>N9 p T cb false N call x.1 x.2.2 (Xc×List Value) (L9 x.2.1 xs (L9 S vs (a0l f.ntmps))) λex fr'=>M.pure (ex,O8 fr' x.2.1)|none=>M.fail
theorem e3q {f:Func}{i n:Nat}{S:List Nat}{vs xs:List Value}(h:a0k (a6P (b0y f) pl) i=some (b,W,pa))(hn:f.ntmps=n:=by with_unfolding_all (conv=>lhs;reduce)):lq p T cb N call f pl i S vs xs=N9 p T cb false N call b pa (Xc×List Value) (L9 W xs (L9 S vs (a0l n))) λex fr'=>M.pure (ex,O8 fr' W):=by grind[lq]
theorem c8o {j}:Pl.a (.s j pa pb)=pa:=rfl
theorem c7a:Pl.a (.l W pa)=pa:=rfl
theorem d3v {j}:Pl.b (.s j pa pb)=pb:=rfl
theorem d3X:Pl.w (.l W pa)=W:=rfl
variable {fn:Func}{rs:List ResultVar}
def c1n (cb:Cb)(T:Tab)(rs:List ResultVar)(ex:Xc)(fr:List Value):M CR:=V3 ex (a3N T cb fr rs λvs=>M.pure (.ret (a8a vs))) (λ_=>M.fail) (a3N T cb fr rs λvs=>M.pure (.ret (a8a vs))) λv=>M.pure (.pan v)
theorem d7O {c:Code}{n:Nat}{args:List Value}(hc:fn.body=some c:=by rfl)(hr:fn.results.toList=rs:=by with_unfolding_all (conv=>lhs;reduce))(hn:fn.ntmps-z8 args=n:=by with_unfolding_all (conv=>lhs;reduce)):a3v p T cb false N call fn (b0y fn) pl args=N9 p T cb false N call c pl CR (E5 args (a0l n)) (c1n cb T rs):=by
 rw[<-hr,<-hn];have:b0y fn=c:=by grind[b0y]
 rw[this];rfl
theorem f_n:c1n cb T rs .normal fr=a3N T cb fr rs λvs=>M.pure (.ret (a8a vs)):=rfl
theorem f_r:c1n cb T rs .ret fr=a3N T cb fr rs λvs=>M.pure (.ret (a8a vs)):=rfl
theorem f_e {i}:c1n cb T rs (.exit i) fr=M.fail:=rfl
theorem b4r {k:List Value->M β}:a3N T cb fr [] k=k []:=rfl
theorem b4H {t:Nat}{k:List Value->M β}:a3N T cb fr (.tmp t::rs) k=a3N T cb fr rs λvs=>k (D5 fr t::vs):=rfl
theorem d0O {x t:Nat}{k}(h:a9c T t=some none):a3N T cb fr (.cell x t::rs) k=a0C (D5 fr x) λad=>cb.bv β (M.bind (loadN ad 1) λq=>M.pure (D5 q 0)) λv=>a3N T cb fr rs λvs=>k (v::vs):=by show a0C (D5 fr x) (λad=>cb.bv β (a4R T t ad) _)=_;congr 1;funext ad;congr 1;grind[a9c,a4R,a0F]
theorem c9H {x t n:Nat}{k}(h:a9c T t=some (some n)):a3N T cb fr (.cell x t::rs) k=a0C (D5 fr x) λad=>cb.bv β (M.bind (loadN ad n) λq=>M.pure (.agg ⟨q⟩)) λv=>a3N T cb fr rs λvs=>k (v::vs):=by show a0C (D5 fr x) (λad=>cb.bv β (a4R T t ad) _)=_;congr 1;funext ad;congr 1;unfold a9c at h;cases e:T.types.get t with|none=>rw[e]at h;cases h|some i=>rw[e]at h;simp only at h;split at h;rename_i q;split at h;cases h;rename_i q2;cases h;unfold a4R;rw[a0F e,q,q2];rfl;cases h
structure Sm {α:Type} (a b:α):Prop where
 e:a=b
inductive Nf (cb:Cb):(β:Type)→M β→M β→Prop
 | bv {β:Type} {m:M Value} {k k':Value→M β}:(∀ v,Nf cb β (k v) (k' v))→Nf cb β (cb.bv β m k) (cb.bv β m k')
 | bj {β:Type} {m m':M R2} {k k':Xc→List Value→M β}:Nf cb R2 m m'→(∀ x l,Nf cb β (k x l) (k' x l))→Nf cb β (cb.bj β m k) (cb.bj β m' k')
 | lp {f f':List Value→M R2} {n:Nat} {x x':List Value}:Sm x x'→(∀ l,Nf cb R2 (f l) (f' l))→Nf cb R2 (cb.lp f n x) (cb.lp f' n x')
 | xc {β:Type} {x:Xc} {a a' c c':M β} {b b':Nat→M β} {d:Value→M β}:Nf cb β a a'→(∀ i,Nf cb β (b i) (b' i))→Nf cb β c c'→Nf cb β (V3 x a b c d) (V3 x a' b' c' d)
 | bs {β:Type} {b b':Bool} {x x' y y':M β}:Sm b b'→Nf cb β x x'→Nf cb β y y'→Nf cb β (bcase b x y) (bcase b' x' y')
 | gd {β:Type} {b:Bool} {m m':M β}:Nf cb β m m'→Nf cb β (M.guard b m) (M.guard b m')
 | pu {β:Type} {a a':β}:Sm a a'→Nf cb β (M.pure a) (M.pure a')
 | rf {β:Type} {a:M β}:Nf cb β a a
 | of {β:Type} {a b y:M β}:a=b→Nf cb β b y→Nf cb β a y
 | fu {β γ:Type} {a:M β} {m:M γ} {f f':γ→M β}:a=M.bind m f→(∀ y,Nf cb β (f y) (f' y))→Nf cb β a (M.bind m f')
 | fc {β:Type} {a:M β} {m:M CR} {f f' q:Value→M β}:a=cb.bc β m f q→(∀ y,Nf cb β (f y) (f' y))→Nf cb β a (cb.bc β m f' q)
 | fv {β:Type} {a:M β} {m:M Value} {f f':Value→M β}:a=cb.bv β m f→(∀ y,Nf cb β (f y) (f' y))→Nf cb β a (cb.bv β m f')
 | fm {β:Type} {a x y x' y':M β} {v:Value}:a=a5Z v x y→Nf cb β x x'→Nf cb β y y'→Nf cb β a (a5Z v x' y')
 | fp {β:Type} {a:M β} {v:Value} {f f':Addr→M β}:a=a0C v f→(∀ y,Nf cb β (f y) (f' y))→Nf cb β a (a0C v f')
 | fo {β γ:Type} {a:M β} {o:Option γ} {f f':γ→M β}:a=M.obind o f→(∀ y,Nf cb β (f y) (f' y))→Nf cb β a (M.obind o f')
theorem Nf.eq {a b}(h:Nf cb β a b):a=b:=by induction h with|bv _ ih=>rw[funext ih]|bj _ _ h ih=>rw[h,funext λx=>funext (ih x)]|lp h _ ih=>rw[funext ih,h.e]|xc _ _ _ h h1 h2=>rw[h,funext h1,h2]|bs hb _ _ h h'=>rw[hb.e,h,h']|gd _ h=>rw[h]|pu h=>rw[h.e]|rf=>rfl|of e _ h=>rw[e,h]|fu e _ h=>rw[e,funext h]|fc e _ h=>rw[e,funext h]|fv e _ h=>rw[e,funext h]|fm e _ _ h h'=>rw[e,h,h']|fp e _ h=>rw[e,funext h]|fo e _ h=>rw[e,funext h]
section
variable {y:M β}{m:M Value}{fr':List Value}{F:Value->List Value}{k':Value->M β}{vs:List Value}{v:Value}
theorem Nf.lf0 {f f' q:List Value->M R2}{n x x'}(h:∀l,f' l=q l)(hx:Sm x x')(hk:∀l,Nf cb R2 (f l) (q l)):Nf cb R2 (cb.lp f n x) (cb.lp f' n x'):=by rw[hx.e,funext h];exact .lp ⟨rfl⟩ hk
theorem Nf.lf1 {A:Type}{a}{f:List Value->M R2}{f' q:A->List Value->M R2}{n x x'}(h:∀a l,f' a l=q a l)(hx:Sm x x')(hk:∀l,Nf cb R2 (f l) (q a l)):Nf cb R2 (cb.lp f n x) (cb.lp (f' a) n x'):=.lf0 (h a) hx hk
theorem Nf.lf2 {A B:Type}{a b}{f:List Value->M R2}{f' q:A->B->List Value->M R2}{n x x'}(h:∀a b l,f' a b l=q a b l)(hx:Sm x x')(hk:∀l,Nf cb R2 (f l) (q a b l)):Nf cb R2 (cb.lp f n x) (cb.lp (f' a b) n x'):=.lf0 (h a b) hx hk
theorem Nf.lf3 {A B C:Type}{a b c}{f:List Value->M R2}{f' q:A->B->C->List Value->M R2}{n x x'}(h:∀a b c l,f' a b c l=q a b c l)(hx:Sm x x')(hk:∀l,Nf cb R2 (f l) (q a b c l)):Nf cb R2 (cb.lp f n x) (cb.lp (f' a b c) n x'):=.lf0 (h a b c) hx hk
theorem b2p {o}(h:b5o o=true)(hm:Sm (O4 p T fr o) m)(hf:∀v,Sm (a5N d fr v) (F v))(hk:∀v,Nf cb β (a0p p T cb false call os (F v) k) (k' v)):Nf cb β (a0p p T cb false call (⟨d,o,ty,pos,af,g⟩::os) fr k) (cb.bv β m k'):=.fv ((d4k h).trans (by rw[hm.e])) λv=>xM
theorem b0S {b a ts}(hm:Sm (a0J p T fr b a ts) m)(hf:∀v,Sm (a5N d fr v) (F v))(hk:∀v,Nf cb β (a0p p T cb false call os (F v) k) (k' v)):Nf cb β (a0p p T cb false call (⟨d,.call ⟨.builtin b,a,ts⟩,ty,pos,af,g⟩::os) fr k) (cb.bv β m k'):=.fv (c9B.trans (by rw[hm.e])) λv=>xM
theorem b7A {f:Nat}{a ts}(h:okL T a.toList=true)(hv:Sm (vL fr a.toList) vs)(hf:∀v,Sm (a5N d fr v) (F v))(hk:∀v,Nf cb β (a0p p T cb false call os (F v) k) (k' v)):Nf cb β (a0p p T cb false call (⟨d,.call ⟨.value (.func f),a,ts⟩,ty,pos,af,g⟩::os) fr k) (cb.bc β (call f vs) k' noP):=.fc ((d8G h).trans (by rw[hv.e])) λv=>xM
theorem b4B {t a ts}(h:okL T a.toList=true)(hw:Sm (D5 fr t) v)(hv:Sm (vL fr a.toList) vs)(hf:∀v,Sm (a5N d fr v) (F v))(hk:∀v,Nf cb β (a0p p T cb false call os (F v) k) (k' v)):Nf cb β (a0p p T cb false call (⟨d,.call ⟨.value (.tmp t),a,ts⟩,ty,pos,af,g⟩::os) fr k) (M.obind (b1x v vs) λga=>cb.bc β (call ga.1 ga.2) k' noP):=.fo ((d6n (f:=.tmp t) rfl h).trans (by rw[<-hw.e,<-hv.e];rfl)) λga=>.fc rfl λv=>xM
theorem b7E {x}(h:okO T x=true)(hv:Sm (a5N d fr (vO fr x)) fr')(hk:Nf cb β (a0p p T cb false call os fr' k) y):Nf cb β (a0p p T cb false call (⟨d,.move x,ty,pos,af,g⟩::os) fr k) y:=.of ((d9C h).trans (by rw[hv.e])) hk
theorem b2r {x}(h:okO T x=true)(hv:Sm (a5N d fr (vO fr x)) fr')(hk:Nf cb β (a0p p T cb false call os fr' k) y):Nf cb β (a0p p T cb false call (⟨d,.assign x,ty,pos,af,g⟩::os) fr k) y:=.of ((d2r h).trans (by rw[hv.e])) hk
theorem b4t {x}(h:okO T x=true)(hv:Sm (vO fr x) v):Nf cb β (a0p p T cb false call (⟨d,.panic x,ty,pos,af,g⟩::os) fr k) (M.guard (a5u v) M.fail):=.of ((d7S h).trans (by rw[hv.e])) .rf
theorem c2H {x x' y'}(h:okO T x=true)(hv:Sm (vO fr x) v)(h1:Nf cb β (N9 p T cb false N call a pl.a β fr k) x')(h2:Nf cb β (N9 p T cb false N call b pl.b β fr k) y'):Nf cb β (N9 p T cb false N call (.cond x a b) pl β fr k) (a5Z v x' y'):=.fm (by show M.obind (X5 T fr x) _=_;rw[a5t h,hv.e];rfl) h1 h2
theorem b4j {x x' y'}(h:okO T x=true)(hv:Sm (vO fr x) v)(h1:Nf cb β (N9 p T cb false N call a .d β fr k) x')(h2:Nf cb β (N9 p T cb false N call b .d β fr k) y'):Nf cb β (N9 p T cb false N call (.cond x a b) .d β fr k) (a5Z v x' y'):=c2H (pl:=.d) h hv h1 h2
theorem b4n {x j x' y'}(h:okO T x=true)(hv:Sm (vO fr x) v)(h1:Nf cb β (N9 p T cb false N call a pa β fr k) x')(h2:Nf cb β (N9 p T cb false N call b pb β fr k) y'):Nf cb β (N9 p T cb false N call (.cond x a b) (.s j pa pb) β fr k) (a5Z v x' y'):=c2H (pl:=.s j pa pb) h hv h1 h2
theorem b4v {x x' y'}(h:okO T x=true)(hv:Sm (vO fr x) v)(h1:Nf cb β (N9 p T cb false N call a pa β fr k) x')(h2:Nf cb β (N9 p T cb false N call b .d β fr k) y'):Nf cb β (N9 p T cb false N call (.cond x a b) (.l W pa) β fr k) (a5Z v x' y'):=c2H (pl:=.l W pa) h hv h1 h2
theorem b4G {x t:Nat}{k}{k':Addr->Value->M β}(h:a9c T t=some none)(hv:Sm (D5 fr x) v)(hk:∀a w,Nf cb β (a3N T cb fr rs λvs=>k (w::vs)) (k' a w)):Nf cb β (a3N T cb fr (.cell x t::rs) k) (a0C v λa=>cb.bv β (M.bind (loadN a 1) λq=>M.pure (D5 q 0)) λw=>k' a w):=.fp ((d0O h).trans (by rw[hv.e])) λa=>.bv (hk a)
theorem b4q {x t n:Nat}{k}{k':Addr->Value->M β}(h:a9c T t=some (some n))(hv:Sm (D5 fr x) v)(hk:∀a w,Nf cb β (a3N T cb fr rs λvs=>k (w::vs)) (k' a w)):Nf cb β (a3N T cb fr (.cell x t::rs) k) (a0C v λa=>cb.bv β (M.bind (loadN a n) λq=>M.pure (.agg ⟨q⟩)) λw=>k' a w):=.fp ((c9H h).trans (by rw[hv.e])) λa=>.bv (hk a)
variable {c:Nat->List Value->M Value}{ops:List Oper}{G:List a0U}{q:List Value->List a0U->M β}{o:Op}{H:Value×a0U->List Value}{A:Value×a0U->List a0U}{f':Value×a0U->M β}
theorem c0y (hm:Sm (Z4 p T c fr o) m)(hf:∀x,Sm (a5N d fr x.1) (H x))(hA:∀x,Sm (E5 G [x.2]) (A x))(hk:∀x,Nf cb β (a3q p T c ops os (H x) (A x) q) (f' x)):Nf cb β (a3q p T c ops (⟨d,o,ty,pos,af,none⟩::os) fr G q) (M.bind (M.foot m) f'):=.fu (d7r.trans (by rw[hm.e])) λx=>by rw[(hf _).e,(hA _).e];exact hk x
theorem b9Y {j t:Nat}{b}(h:a4A ops j=some t)(hv:Sm (D5 fr t) v)(hm:Sm (Z4 p T c fr o) m)(hf:∀x,Sm (a5N d fr x.1) (H x))(hA:∀x,Sm (E5 G [x.2]) (A x))(hk:∀x,Nf cb β (a3q p T c ops os (H x) (A x) q) (f' x)):Nf cb β (a3q p T c ops (⟨d,o,ty,pos,af,some (j,b)⟩::os) fr G q) (M.bind (bcase (a1W b v) (M.foot m) (M.pure (undef,([],[])))) f'):=.fu ((d6A h).trans (by rw[hm.e,hv.e])) λx=>by rw[(hf _).e,(hA _).e];exact hk x
end
end
end Go.V
end
