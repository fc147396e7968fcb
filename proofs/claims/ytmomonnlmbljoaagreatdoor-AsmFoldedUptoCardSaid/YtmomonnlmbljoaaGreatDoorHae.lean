import Derived.Test.YtmomonnlmbljoaaGreatDoorHad
set_option maxRecDepth 1000000
set_option maxHeartbeats 4000000
set_option linter.unusedVariables false
set_option linter.unusedSimpArgs false
section
namespace Go.V
open Go.RowKit (Below)
section
variable {P:Program}{T:Tab}{B0:Nat}{w0:Base}{w:World}{K:KM}{s s':S}{a:Act}{fr:List Value}{v:Value}
theorem b0w:∀(vs) (bs),b1Q vs=some bs->∃ns:List Int,vs=ns.map (λn=>Value.int .u8 n)/\bs=ns.map λn=>UInt8.ofNat n.toNat
 |[],bs,h=>by cases h;simp_all|v::vs,bs,h=>by
  have h':(match b5u v with|none=>none|some b=>(match b1Q vs with|some bs=>some (b::bs)|none=>none))=some bs:=h;cases hb:b5u v with
   |none=>rw[hb]at h';cases h'|some b=>
    rw[hb]at h';cases hr:b1Q vs with
     |none=>rw[hr]at h';cases h'|some bs1=>
      rw[hr]at h';cases h';obtain⟨ns,e1,e2⟩:=b0w vs bs1 hr;cases v with
       |int k n=>cases k with|u8=>cases hb;exact⟨n::ns,by rw[e1];rfl,by rw[e2];rfl⟩|_=>cases hb
       |_=>cases hb
theorem c4D (ns:List Int):∀(acc:ByteArray),ns.foldl (λr n=>r.push (UInt8.ofNat n.toNat)) acc=⟨⟨acc.data.toList++ns.map λn=>UInt8.ofNat n.toNat⟩⟩:=by induction ns with|nil=>intro acc;simp|cons n ns ih=>simp_all
theorem c3w (hT:TabOk P T){src dst x}(h:a2g T fr src dst x s=some (v,s'))(S:Sim B0 w0 K s.h w)(F:Q0 K s s')(hf:VRL K a.tmps.toList fr)(hg:GK T K):G9 P B0 w0 K s' (do pure (Next.value (<-convert src dst (a.eval x)))) w v:=by
 obtain⟨vx,e1,h1⟩:=N6 h;obtain⟨sd,hs,h2⟩:=J8 h1;obtain⟨dd,hd,h3⟩:=J8 h2;have rx:=E3 hf hg e1;have us:=λw=>M8 (P:=P) hT hs w;have ud:=λw=>M8 (P:=P) hT hd w;generalize hu:dd.und=u at h3 ud;cases u with
  |int k=>cases vx with|int k' n=>obtain⟨rfl,rfl⟩:=j7 h3;have ex:=rx.eq_of_plain rfl;refine G9.quiet S rfl (v':=.int k (k.wrap n)) ?_ (by rw[a2y];exact .plain rfl);rw[ex];simp[convert,us,ud,Conv.intToInt]|_=>exact absurd h3 zp
  |slice e=>
   cases vx with
    |string b=>
     obtain⟨i,hi,h4⟩:=J8 h3;obtain⟨hgd,h5⟩:=y8 h4;obtain⟨ad,s1,h6,h7⟩:=o7 h5;obtain⟨rfl,rfl⟩:=j7 h7;have ex:=rx.eq_of_plain rfl;simp only[xM,y9]at hgd;have hlen:b.data.toList.length=b.size:=rfl;have hby:i.und=.int .u8:=by
      have:=hgd.1;cases hiu:i.und with
       |int k=>cases k<;>first|rfl|(rw[hiu]at this;cases this)
       |_=>rw[hiu]at this;cases this
     rw[S9]at h6;have hv:VRL K (b.data.toList.map a4T) (b.data.toList.map a4T):=VRL.refl_plain _ (λy hy=>by obtain⟨z,_,rfl⟩:=uy.1 hy;rfl);let cap:=(Question.appendCap b.size 0 e).cut (w.tape w.drawn (Question.appendCap b.size 0 e));have hcap:b.size<=cap:=by show b.size<=b.size+_%_;omega
     let arr:Array Value:=b.data.map (λx=>Value.int .u8 x.toNat)++Array.replicate (cap-b.size) (.int .u8 0);have harr:arr.toList=b.data.toList.map a4T++List.replicate (cap-b.size) (.int .u8 0):=by simp only[arr,uZ,Array.toList_map,uV];rfl
     have hasz:arr.size=cap:=by rw[<-vu,harr];simp_all
     let w1:World:=(w.drew.alloc (.cells arr e));let w2:World:=w1.freeze {block:=w.heap.size,off:=arr.size} 1;have hblk:w2.heap[w.heap.size]?=some (.cells arr e (arr.size,arr.size+1)):=by show((w.heap.push (.cells arr e (0,0))).modify w.heap.size _)[w.heap.size]?=_;rw[uS,wT rfl,ss];rfl
     have G:Grew w w2:=by refine⟨rfl,rfl,rfl,?_,?_⟩;grind;intro k hk;show((w.heap.push (.cells arr e (0,0))).modify w.heap.size _)[k]?=_;rw[uS,wX zy,Array.getElem?_push,wX zy]
     obtain⟨K',k1,k2,rfl⟩:=a3T (w':=w2) (arr:=arr) (e:=e) h6 S F hv G hblk harr (λo ho=>zy);refine G9.step (v':=.slice (some ⟨w.heap.size,0,none⟩) b.size cap) (w':=w2) ?_ k1 ?_;rw[ex];have ue:=λw=>M8 (P:=P) hT hi w;rw[hby]at ue;simp only[convert,wv,us,ud,xD];cases sd.und<;>(simp only[wv,ue,xD,Conv.stringToBytes,run_choose,Question.forced,wL,vN,newRow,sR,wb,markStringish,run_shape];simp only[World.shape?,ss];rfl);rw[y9];refine VR.slice (off:=0) k2 (wR _) zy hcap (Or.inr rfl) (Or.inr ⟨rfl,rfl,λ_=>?_⟩);simp_all|_=>exact absurd h3 zp
  |string=>
   cases vx with
    |string b=>obtain⟨rfl,rfl⟩:=j7 h3;have ex:=rx.eq_of_plain rfl;refine G9.quiet S rfl (v':=.string b) ?_ (.plain rfl);rw[ex];simp_all[convert]|int k n=>obtain⟨rfl,rfl⟩:=j7 h3;have ex:=rx.eq_of_plain rfl;refine G9.quiet S rfl (v':=.string (Utf8.encode n)) ?_ (.plain rfl);rw[ex];simp only[convert,wv,us,ud,xD];cases sd.und<;>rfl|slice o len es=>
     generalize hsu:sd.und=su at h3 us;cases su with
      |slice e=>
       obtain⟨_,h4⟩:=y8 h3;obtain⟨i,hi,h5⟩:=J8 h4;obtain⟨hgd,h6⟩:=y8 h5;obtain⟨vs,s1,h7,h8⟩:=o7 h6;obtain⟨bs,hbs,h9⟩:=x8 h8;obtain⟨rfl,rfl⟩:=j7 h9;obtain⟨n,vs',c1,c2,c3,c4,c5,c6⟩:=b3t (P:=P) h7 zy S rx;have hby:i.und=.int .u8:=by
        cases hiu:i.und with
         |int k=>cases k<;>first|rfl|(rw[hiu]at hgd;cases hgd)
         |_=>rw[hiu]at hgd;cases hgd
       have ue:=λw=>M8 (P:=P) hT hi w;rw[hby]at ue;obtain⟨ns,e2,e3⟩:=b0w vs bs hbs;have hvs:vs'=ns.map (λn=>Value.int .u8 n):=by
        apply wE;intro j;rw[<-e2];cases hj:vs[j]? with
         |none=>rw[ww (by rw[c3.len];simp_all)]|some z=>
          obtain⟨z',q1,q2⟩:=c3.get? hj;rw[q1];have:z∈ns.map (λn=>Value.int .u8 n):=by rw[<-e2];grind
          obtain⟨m,_,rfl⟩:=uy.1 this;rw[q2.eq_of_plain rfl]
       refine G9.quiet S c5 (v':=.string ⟨⟨bs⟩⟩) ?_ (.plain rfl);have hconv:(convert src dst (a.eval x)).run P w=(Conv.bytesToString (a.eval x)).run P w:=by rcases a1H rx with⟨_,ad',cap,_,p2,_⟩|⟨_,_,_,p4⟩;rw[p2];simp_all[convert];simp_all[convert]
       rw[hconv];rcases a1H rx with⟨_,ad',cap,_,p2,_⟩|⟨_,_,_,p4⟩;rw[p2]at c1 c2⊢;have hn:n=len:=by have:=c1 w;simp_all[Builtin.lenOf]
       have hl:(loadCells ad' len).run P w=.ok ((ns.map (λn=>Value.int .u8 n)).toArray) w:=by have:=c2 w (λ_=>rfl);rw[hvs,hn]at this;grind[Builtin.firstCells]
       rw[run_bytesToString w ad' len cap ns hl,c4D,e3];simp;rw[p4]at c1 c2⊢;have hn:n=0:=by have:=c1 w;simp_all[Builtin.lenOf]
       have:vs'=[]:=uT (by rw[c4,hn]);rw[this]at hvs;have hns:ns=[]:=zr;rw[e3,hns];rfl|_=>exact absurd h3 zp
    |_=>cases hq:sd.und<;>rw[hq]at h3<;>exact absurd h3 zp
  |_=>exact absurd h3 zp
theorem c3P (hT:TabOk P T){b args ts ty consts}(h:S5 P T fr b args ts s=some (v,s'))(S:Sim B0 w0 K s.h w)(F:Q0 K s s')(hf:VRL K a.tmps.toList fr)(hg:GK T K):G9 P B0 w0 K s' (builtin b ts ty consts (args.map a.eval)) w v:=by
 obtain⟨vs,e1,h1⟩:=a4y h;have r:=a3V hf hg e1;have hargs:args.map a.eval=(args.toList.map a.eval).toArray:=zr;rw[hargs];cases b with
  |append=>obtain⟨hlen2,h2⟩:=y8 h1;rw[y9]at hlen2;obtain⟨v',w',K',q1,q2,q3⟩:=c4q (ty:=ty) hT (by rw[r.len];simp_all) h2 S F r;exact G9.step q1 q2 q3|len=>
   obtain⟨t,e2,h2⟩:=x8 h1;obtain⟨d,hd,h3⟩:=J8 h2;obtain⟨x,e3,h4⟩:=x8 h3;rw[a0J,a5H]at e2;rw[a0J]at e3;obtain⟨x',e4,rx⟩:=r.get? e3;have e4':(args.toList.map a.eval).toArray[0]?=some x':=zr;have hu:=M8 (P:=P) hT hd w;have hlen:∃n,(Builtin.len_ ts ty (args.toList.map a.eval).toArray).run P w=.ok (goInt n) w/\v=goInt n/\s'.h=s.h:=by
    unfold Builtin.len_;simp only[e2,e4'];simp only[wv,hu,xD];unfold c8k at h4;generalize d.und=u at*;cases u with
     |array n e=>obtain⟨rfl,rfl⟩:=j7 h4;exact⟨n,rfl,rfl,rfl⟩|string=>cases x with|string p=>obtain⟨rfl,rfl⟩:=j7 h4;rw[rx.eq_of_plain rfl];exact⟨p.size,rfl,by rw[y9];rfl,rfl⟩|_=>exact absurd h4 zp
     |slice e=>cases x with|slice o n es=>obtain⟨rfl,rfl⟩:=j7 h4;rcases a1H rx with⟨_,ad',cap,_,p2,_⟩|⟨_,p2,_,p4⟩;rw[p2];exact⟨n,rfl,rfl,rfl⟩;rw[p4,p2];exact⟨0,rfl,rfl,rfl⟩|_=>exact absurd h4 zp
     |map k e=>obtain⟨es,s1,h5,h6⟩:=o7 h4;obtain⟨rfl,rfl⟩:=j7 h6;obtain⟨c1,c2,c3⟩:=a8O h5 S rx;rcases c3 with⟨q1,rfl⟩|⟨b,l,es',clock,_,q2,q3,q4,q5,q6,q7⟩;rw[q1];exact⟨0,rfl,rfl,c1⟩;rw[q2];simp only[wv,a4u q6 zq,xD,wb];exact⟨es'.size,rfl,by rw[y9,<-q7.len];simp,c1⟩|_=>exact absurd h4 zp
   obtain⟨n,q1,rfl,q3⟩:=hlen;exact G9.quiet S q3 q1 (.plain rfl)|max=>obtain⟨hp,h2⟩:=y8 h1;obtain⟨z,hz,hna,rfl,rfl⟩:=a8t h2;have hvs:args.toList.map a.eval=vs:=yk;rw[hvs];exact G9.quiet S rfl (a4K hz w) (T5 _ _ hna)|min=>obtain⟨hp,h2⟩:=y8 h1;obtain⟨z,hz,hna,rfl,rfl⟩:=a8t h2;have hvs:args.toList.map a.eval=vs:=yk;rw[hvs];exact G9.quiet S rfl (a4K hz w) (T5 _ _ hna)|_=>exact absurd h1 zp
theorem b9G (hT:TabOk P T){o}(h:E4 P T fr o.op s=some (v,s'))(S:Sim B0 w0 K s.h w)(F:Q0 K s s')(hf:VRL K a.tmps.toList fr)(hg:GK T K):G9 P B0 w0 K s' (execOp a.eval o) w v:=by obtain⟨dst,op,type,pos,after,guard⟩:=o;cases op with|move x=>exact c2d h S hf hg|assign x=>exact c2d h S hf hg|pick c x y=>exact d2Q h S hf hg|alloc t=>exact c7O hT h S F|box t x=>exact d4p h S F hf hg|build t ps=>exact d0m hT h S hf hg|buildSlice t len ps=>exact b6t hT h S F hf hg|load t x=>exact d2f hT h S hf hg|store t x y=>exact c9G hT h S hf hg|nilCheck x=>exact c1b rfl h S hf hg|binOp op t x y yt=>exact d7B hT h S hf hg|unOp op t x=>exact e0Z h S hf hg|convert x y z=>exact c3w hT h S F hf hg|makeInterface t x=>exact c8X hT h S hf hg|makeFunc fn x y=>exact d3U h S hf hg|makeMap t r=>exact d4h hT h S F hf hg|makeSlice t x y=>exact d2v hT h S F hf hg|slice t x lo hi mx=>exact c8A hT h S hf hg|fieldAddr t x f=>exact b9j hT h S hf hg|field t x f=>exact c8p hT h S hf hg|indexAddr t x i=>exact c0n hT h S hf hg|index t x i=>exact c8w hT h S hf hg|lookup t x i ok=>exact c6n hT h S hf hg|mapUpdate t m k x=>exact b5Y hT h S hf hg|insert t m k x=>exact b5Y hT h S hf hg|range t x=>exact c9a hT h S F hf hg|next x str=>exact d2X h S hf hg|extract x i=>exact c4z h S hf hg|_=>exact absurd h zp
def a2N (P:Program)(T:Tab)(B0:Nat)(w0:Base)(call:Nat->List Value->M Value):Prop:=∀f vs s v s' w K vs',call f vs s=some (v,s')->Sim B0 w0 K s.h w->GK T K->Q0 K s s'->VRL K vs' vs->(∃v' w' K',(callFunc f vs'.toArray).run P w=.ok (.value v') w'/\Step B0 w0 K s' w' K'/\VR K' v' v)\/((callFunc f vs'.toArray).run P w=.ok (.enter f vs'.toArray) w/\Calls P f vs'.toArray w λe w'=>∃v' K',e=.returned v'/\Step B0 w0 K s' w' K'/\VR K' v' v)
theorem b4U {x' fn x y}(r:VR K x' (.func fn x y)):∃x1 y1,x'=.func fn x1 y1/\VRL K x1.toList x.toList/\VRL K y1.toList y.toList:=by generalize hv:Value.func fn x y=z at r;cases r with|plain hp=>grind[V.plain]|func h1 h2 h3 h4=>cases hv;exact⟨_,_,rfl,⟨h1,h2⟩,⟨h3,h4⟩⟩|_=>cases hv
theorem a8x (hT:TabOk P T){call}(hC:a2N P T B0 w0 call){o:Oper}(h:M7 P T call fr o.op s=some (v,s'))(S:Sim B0 w0 K s.h w)(F:Q0 K s s')(hf:VRL K a.tmps.toList fr)(hg:GK T K){next}{Q}(hn:∀v' w' K',Step B0 w0 K s' w' K'->VR K' v' v->next (a.put o.dst v') w'):o.wp P a w next Q:=by
 have good:G9 P B0 w0 K s' (execOp a.eval o) w v->o.wp P a w next Q:=by rintro⟨n,w',K',r1,r2,r3⟩;unfold Oper.wp;rw[r1];rcases r3 with⟨v',rfl,r⟩|⟨rfl,rfl⟩;exact hn v' w' K' r2 r;exact hn undef w' K' r2 (VR.undef K')
 unfold M7 at h;cases hc:a9r o.op with
  |none=>rw[hc]at h;grind[b9G]|some c=>
   rw[hc]at h;have hop:o.op=.call c:=by cases ho:o.op<;>rw[ho]at hc<;>first|(cases hc;rfl)|cases hc
   have h':a9b P T call fr c s=some (v,s'):=h;have hex:execOp a.eval o=(do let d<-resolve a.eval c o.type;invoke d.target d.args):=by grind[execOp]
   unfold a9b at h';cases hcal:c.callee with
    |builtin b=>rw[hcal]at h';grind[c3P,resolve,invoke]|value f=>
     rw[hcal]at h';obtain⟨vf,e1,h1⟩:=N6 h';obtain⟨vs,e2,h2⟩:=a4y h1;have rf:=E3 hf hg e1;have rs:=a3V hf hg e2;cases vf with
      |func fn first captured=>
       cases fn with
        |func g=>
         have h3:call g (m9 first.toList (m9 vs captured.toList)) s=some (v,s'):=h2;rw[v8,v8]at h3;obtain⟨f1,c1,ef,rf1,rc1⟩:=b4U rf;have rargs:VRL K (f1.toList++(c.args.toList.map a.eval++c1.toList)) (first.toList++(vs++captured.toList)):=rf1.append (rs.append rc1);have e:execOp a.eval o=callFunc g (f1.toList++(c.args.toList.map a.eval++c1.toList)).toArray:=by rw[hex];unfold resolve;rw[hcal];show(do let d<-Deferred.ofValue (a.eval f) (c.args.map a.eval);invoke d.target d.args)=_;rw[ef];show callFunc g (f1++c.args.map a.eval++c1)=_;congr 1;simp_all
         rcases hC g _ s v s' w K _ h3 S hg F rargs with⟨v',w',K',q1,q2,q3⟩|⟨q1,q2⟩;exact good ⟨.value v',w',K',by rw[e];exact q1,q2,Or.inl ⟨v',rfl,q3⟩⟩;unfold Oper.wp;rw[e,q1];refine q2.mono λen w' hq=>?_;grind|_=>exact absurd h2 zp
      |_=>exact absurd h2 zp
    |invoke r m=>rw[hcal]at h';cases h'
theorem a7y (ops tmps)(hf:VRL K tmps.toList fr)(o):Region.wanted o (yielded ops tmps)=Y2 ops.toList fr o:=by
 unfold Region.wanted Y2;cases o.guard with
  |none=>rfl|some jb=>
   obtain⟨j,b⟩:=jb;show(yielded ops tmps j==some b)=(match a2n ops.toList j with|some t=>Y6 b (r6 fr t)|none=>false);have hd:a2n ops.toList j=(ops[j]?).bind (·.dst):=by grind[a2n,a0J]
   rw[hd];unfold yielded;cases ho:ops[j]? with
    |none=>rfl|some o'=>
     simp only[Option.bind_some];cases o'.dst with
      |none=>rfl|some t=>
       show((match tmps[t]? with|some (.bool b)=>some b|_=>none)==some b)=Y6 b (r6 fr t);have r:=hf.lget t;rw[a1Y tmps.toList,a5H]at r;cases ht:tmps[t]? with
        |none=>
         have:r6 fr t=undef:=by rw[a1Y,ww];rfl;rw[<-hf.len];grind
         rw[this];rfl|some x=>
         rw[ht]at r;have r:VR K x (r6 fr t):=r;generalize r6 fr t=y at r;cases r with
          |plain hp=>cases x with|bool b'=>rfl|_=>rfl
          |_=>rfl
theorem a6r {K'}(hf:VRL K' a.tmps.toList fr)(o){v'}(r:VR K' v' v):VRL K' (a.put o.dst v').tmps.toList (G2 fr o v):=by unfold Act.put G2;cases o.dst with|none=>exact hf|some t=>have:=hf.lset t r;simp_all
theorem a0M (a:Act)(d v):(a.put d v).defers=a.defers:=by cases d<;>rfl
theorem Step.trans {s1 s2 w1 w2 K1 K2}(h1:Step B0 w0 K s1 w1 K1)(h2:Step B0 w0 K1 s2 w2 K2)(hc:s1.c<=s2.c):Step B0 w0 K s2 w2 K2:=⟨KM.le_trans h1.le h2.le,λi g hi=>(h2.far i g hi).trans (h1.far i g (wg hc hi)),h2.sim⟩
theorem Q0.right {α}{m:M α}{x s1 s2 K1}(F:Q0 K s s2)(hm:Fr m)(h1:m s=some (x,s1)):Q0 K1 s1 s2:=λi hi hi2=>by obtain⟨dr,dw,_,_,e3,_,e5,_,e7,_⟩:=hm s x s1 h1;rw[e7 i (λq=>by have:=e5 i q;omega)];exact F i (wg e3 hi) hi2
theorem Q0.left {s1 s2}(F:Q0 K s s2)(hc:s1.c<=s2.c):Q0 K s s1:=λi hi hi2=>F i hi (xI hi2 hc)
theorem Fr.le {α}{m:M α}(h:Fr m){x}(e:m s=some (x,s')):s.c<=s'.c:=let⟨_,_,_,_,q,_⟩:=h s x s' e;q
def b0M (B0:Nat)(w0:Base)(K:KM)(s':S)(ds:List Deferred)(ex:Ex)(fr':List Value):Exit->Act->World->Prop:=λe a' w'=>∃K',Step B0 w0 K s' w' K'/\VRL K' a'.tmps.toList fr'/\a'.defers=ds/\(match ex with|.normal=>e=.normal|.exit id=>e=.exit id|.ret=>e=.ret)
theorem c6l (hT:TabOk P T){call}(hC:a2N P T B0 w0 call)(hF:∀f vs,Fr (call f vs))(ops){Q}:∀(n k) (fr fr') (s s') (K) (a) (w),k+n=ops.size->a3R P T call ops.toList (ops.toList.drop k) fr s=some (fr',s')->Sim B0 w0 K s.h w->Q0 K s s'->VRL K a.tmps.toList fr->GK T K->(∀a' w' K',Step B0 w0 K s' w' K'->VRL K' a'.tmps.toList fr'->a'.defers=a.defers->Q .normal a' w')->wpOps P ops Q (List.range' k n) a w:=by intro n;induction n with|zero=>intro k fr fr' s s' K a w hk h S F hf hg hq;have:ops.toList.drop k=[]:=uE zo;rw[this]at h;obtain⟨rfl,rfl⟩:=j7 h;exact hq a w K (Step.same S rfl) hf rfl|succ n ih=>intro k fr fr' s s' K a w hk h S F hf hg hq;have hlt:k<ops.size:=zy;have hd:ops.toList.drop k=ops[k]::ops.toList.drop (k+1):=xq;rw[hd,a8H]at h;rw[tp];simp only[wpOps,uk hlt];rw[a7y ops a.tmps hf];cases hw:Y2 ops.toList fr ops[k]with|true=>rw[hw]at h;simp only[tf]at h⊢;left;obtain⟨v,s1,h1,h2⟩:=o7 h;have hle2:=(Fr.runOps P T hF _ _ _).le h2;refine a8x hT hC h1 S (F.left hle2) hf hg λv' w' K' st r=>?_;refine ih (k+1) _ fr' s1 s' K' _ w' zy h2 st.sim (F.right (Fr.stepOp P T hF _ _) h1) (a6r (hf.mono st.le) _ r) (hg.mono st.le) λa2 w2 K2 st2 r2 d2=>?_;exact hq a2 w2 K2 (st.trans st2 hle2) r2 (by rw[d2,a0M])|false=>rw[hw]at h;simp only[wL,vN]at h⊢;refine ih (k+1) _ fr' s s' K _ w zy h S F (a6r hf _ (VR.undef K)) hg λa2 w2 K2 st2 r2 d2=>?_;grind[a0M]
end
end Go.V
end
section
namespace Go.V
open Go.RowKit (Below)
section
variable {P:Program}{T:Tab}{fr fr2:List Value}
theorem a8b (i l):a0D i l=true↔i∈l:=by induction l with|nil=>constructor<;>intro h<;>cases h|cons x l ih=>show(match Nat.beq i x with|true=>true|false=>a0D i l)=true↔_;cases h:Nat.beq i x with|true=>simp_all|false=>have:i≠x:=λe=>zq;simp_all
theorem b3D (l m):L9 l m=true↔∀i,i∈l->i∉m:=by grind[L9,C9,a8b]
theorem c4R {t:Nat}{xs}(h:Operand.tmp t∈xs):t∈a9q xs:=by induction xs with|nil=>cases h|cons x xs ih=>show t∈(match x with|.tmp t=>t::a9q xs|_=>a9q xs);grind
theorem c1a {x:Operand}(h:∀t,x=.tmp t->r6 fr t=r6 fr2 t):K4 T fr x=K4 T fr2 x:=by cases x with|tmp t=>show some (r6 fr t)=some (r6 fr2 t);rw[h t rfl]|_=>rfl
theorem a1A {xs}(h:∀x∈xs,K4 T fr x=K4 T fr2 x):T0 T fr xs=T0 T fr2 xs:=by induction xs with|nil=>rfl|cons x xs ih=>grind[T0]
theorem b4N {o}(h:∀x∈o.operands.toList,K4 T fr x=K4 T fr2 x):E4 P T fr o=E4 P T fr2 o:=by
 cases o with
  |move x=>show M.lift _=M.lift _;rw[h x (by simp[Op.operands])]|assign x=>show M.lift _=M.lift _;rw[h x (by simp[Op.operands])]|pick c x y=>show a8a T fr c x y=a8a T fr2 c x y;simp_all[a8a,ev,Op.operands]|alloc t=>rfl|box t x=>show a9x T fr x=a9x T fr2 x;grind[a9x,ev,Op.operands]|build t ps=>show a6n T fr t ps=a6n T fr2 t ps;have:T0 T fr (G4 (·.2) ps.toList)=T0 T fr2 (G4 (·.2) ps.toList):=a1A (λx hx=>h x (by rw[S9]at hx;grind[Op.operands]));grind[a6n,evs]|buildSlice t len ps=>show a1O T fr t len ps=a1O T fr2 t len ps;have:T0 T fr (G4 (·.2) ps.toList)=T0 T fr2 (G4 (·.2) ps.toList):=a1A (λx hx=>h x (by rw[S9]at hx;grind[Op.operands]));grind[a1O,evs]|load t x=>show a5A T fr t x=a5A T fr2 t x;grind[a5A,ev,Op.operands]|store t x y=>show a6e T fr t x y=a6e T fr2 t x y;grind[a6e,ev,Op.operands]|nilCheck x=>show a2X T fr x=a2X T fr2 x;grind[a2X,ev,Op.operands]|binOp op t x y yt=>show b0i P T fr op t x y=b0i P T fr2 op t x y;grind[b0i,ev,Op.operands]|unOp op t x=>show b2W P T fr op x=b2W P T fr2 op x;grind[b2W,ev,Op.operands]|convert x y z=>show a2g T fr x y z=a2g T fr2 x y z;grind[a2g,ev,Op.operands]|makeInterface t x=>show a6d T fr t x=a6d T fr2 t x;grind[a6d,ev,Op.operands]|makeFunc fn x y=>show a7V T fr fn x y=a7V T fr2 fn x y;have e1:T0 T fr x.toList=T0 T fr2 x.toList:=a1A (λz hz=>h z yW);have e2:T0 T fr y.toList=T0 T fr2 y.toList:=a1A (λz hz=>h z yW);grind[a7V,evs]|makeMap t r=>cases r with|none=>rfl|some x=>show a9X T fr t (some x)=a9X T fr2 t (some x);grind[a9X,ev,Op.operands]
  |makeSlice t x y=>show a8c T fr t x y=a8c T fr2 t x y;grind[a8c,ev,Op.operands]|slice t x lo hi mx=>show a6c T fr t x lo hi mx=a6c T fr2 t x lo hi mx;have e1:T0 T fr lo.toList=T0 T fr2 lo.toList:=a1A (λz hz=>h z yW);have e2:T0 T fr hi.toList=T0 T fr2 hi.toList:=a1A (λz hz=>h z yW);have e3:T0 T fr mx.toList=T0 T fr2 mx.toList:=a1A (λz hz=>h z yW);simp_all[a6c,evs,ev,Op.operands]|fieldAddr t x f=>show a2p T fr t x f=a2p T fr2 t x f;grind[a2p,ev,Op.operands]|field t x f=>show a4x T fr t x f=a4x T fr2 t x f;grind[a4x,ev,Op.operands]|indexAddr t x i=>show a0N T fr t x i=a0N T fr2 t x i;grind[a0N,ev,Op.operands]|index t x i=>show a6j T fr t x i=a6j T fr2 t x i;grind[a6j,ev,Op.operands]|lookup t x i ok=>show a5c T fr t x i ok=a5c T fr2 t x i ok;grind[a5c,ev,Op.operands]|mapUpdate t m k x=>show a1R T fr t m k x=a1R T fr2 t m k x;simp_all[a1R,ev,Op.operands]|insert t m k x=>show a1R T fr t m k x=a1R T fr2 t m k x;simp_all[a1R,ev,Op.operands]|range t x=>show a6h T fr t x=a6h T fr2 t x;grind[a6h,ev,Op.operands]|next x str=>show a7L T fr x str=a7L T fr2 x str;grind[a7L,ev,Op.operands]|extract x i=>show a3P T fr x i=a3P T fr2 x i;grind[a3P,ev,Op.operands]|_=>rfl
theorem b9U {call o}(h:∀x∈o.operands.toList,K4 T fr x=K4 T fr2 x):M7 P T call fr o=M7 P T call fr2 o:=by
 unfold M7;cases hc:a9r o with
  |none=>exact b4N h|some c=>
   have hop:o=.call c:=by cases o<;>first|(cases hc;rfl)|cases hc
   subst hop;have ha:T0 T fr c.args.toList=T0 T fr2 c.args.toList:=a1A (λz hz=>h z (by grind[Op.operands,Call.operands]));show a9b P T call fr c=a9b P T call fr2 c;unfold a9b;cases hcal:c.callee with|value f=>have hf:K4 T fr f=K4 T fr2 f:=h f (by simp[Op.operands,Call.operands,hcal]);grind[a2Y,ev,evs]|builtin b=>grind[S5,evs]|invoke r m=>rfl
theorem b2g {call ops o}(h:∀t,t∈a1r ops o->r6 fr t=r6 fr2 t):M7 P T call fr o.op=M7 P T call fr2 o.op/\Y2 ops fr o=Y2 ops fr2 o:=by refine⟨b9U λx hx=>c1a λt ht=>h t ?_,?_⟩;grind[c4R,a1r];grind[Y2,a1r]
end
def a4b {β:Type}(X:Nat->β)(inD inW:Nat->Bool):Nat->β|0=>X 0|k+1=>if inD k&&inW k then X (k+1)else a4b X inD inW k
section
variable {β:Type}{X:Nat->β}{inD inW:Nat->Bool}{n:Nat}
theorem a9G (hX:∀k,k<n->inW k=false->X (k+1)=X k)(i)(h:∀j,j<n->inW j=true->(inD j=true↔j<i))(hi:i<=n):a4b X inD inW n=X i:=by
 have key:∀k,k<=n->a4b X inD inW k=X (min k i):=by intro k;induction k with|zero=>grind[a4b]|succ k ih=>grind[a4b]
 rw[key n (xR _),Nat.min_eq_right hi]
theorem c0m (hX:∀k,k<n->inW k=false->X (k+1)=X k)(h:∀j,j<n->inD j=true):a4b X inD inW n=X n:=a9G hX n (λj hj _=>⟨λ_=>hj,λ_=>h j hj⟩) (xR _)
theorem b7Z {inD'}(h:∀j,j<n->inW j=true->inD' j=inD j):a4b X inD' inW n=a4b X inD inW n:=by induction n with|zero=>rfl|succ n ih=>grind[a4b]
theorem c1o (i)(hi:i<n)(hd:inD i=true)(hw:inW i=true)(h:∀j,i<j->j<n->inD j=true->inW j=false):a4b X inD inW n=X (i+1):=by induction n with|zero=>omega|succ n ih=>grind[a4b]
theorem b1e (h:∀j,j<n->inD j=true->inW j=false):a4b X inD inW n=X 0:=by induction n with|zero=>rfl|succ n ih=>grind[a4b]
end
theorem c6S {ops x y}(h:free2 ops x y=true):(∀i,i∈x.2.2->i∉y.2.1)/\(∀i,i∈x.2.2->i∉y.2.2)/\(∀i,i∈y.2.2->i∉x.2.1)/\(∀i,i∈a0G x.1->i∉a1r ops y.1)/\(∀i,i∈a0G x.1->i∉a0G y.1)/\(∀i,i∈a0G y.1->i∉a1r ops x.1):=by simp_all[free2,b3D]
theorem b9h {ops pj y}:∀(xs) (k),a5u ops pj y xs k=true->∀(i) x,xs[i]?=some x->(k+i)∈pj\/free2 ops x y=true:=by intro xs;induction xs with|nil=>simp_all|cons x0 xs ih=>intro k h i x hx;have h':(match a0D k pj||free2 ops x0 y with|true=>a5u ops pj y xs (k+1)|false=>false)=true:=h;cases hb:a0D k pj||free2 ops x0 y with|false=>rw[hb]at h';cases h'|true=>rw[hb]at h';cases i with|zero=>simp_all[a8b]|succ i=>have:=ih (k+1) h' i x zr;rwa[show k+1+i=k+(i+1) by omega]at this
theorem c6o {f l p}(h:p∈a2H f l):∃e∈l,p∈f e:=by induction l with|nil=>cases h|cons e l ih=>have h':p∈m9 (f e) (a2H f l):=h;rw[v8]at h';grind
theorem c0I {ops}:∀(ys xs) (psl) (n),a0U ops ys xs psl n=true->xs.length=n->psl.length=n->∃ps:Nat->List Nat,(∀i l,psl[i]?=some l->ps i=l)/\∀(j) y,ys[j]?=some y->(∀e∈y.1.after.toList,Region.binds .any e=true->e.on<n+j)/\(∀p,p∈ps (n+j)->∃e∈y.1.after.toList,Region.binds .any e=true/\(p=e.on\/p∈ps e.on))/\(∀(i) x,i<n+j->(xs++ys)[i]?=some x->i∈ps (n+j)\/free2 ops x y=true):=by intro ys;induction ys with|nil=>intro xs psl n _ _ _;exact⟨λi=>(psl[i]?).getD [],λi l h=>by simp[h],λj y h=>by simp at h⟩|cons y ys ih=>intro xs psl n h hx hp;have h':(match a5i n y.1.after.toList&&a5u ops (a2H (a3K psl) y.1.after.toList) y xs 0 with|true=>a0U ops ys (m9 xs [y]) (m9 psl [a2H (a3K psl) y.1.after.toList]) (n+1)|false=>false)=true:=h;cases hb:a5i n y.1.after.toList&&a5u ops (a2H (a3K psl) y.1.after.toList) y xs 0 with|false=>rw[hb]at h';cases h'|true=>rw[hb]at h';simp only[v8]at h';simp only[xM]at hb;obtain⟨ps,p1,p2⟩:=ih (xs++[y]) (psl++[a2H (a3K psl) y.1.after.toList]) (n+1) h' (by simp[hx]) (by simp[hp]);have hpsn:ps n=a2H (a3K psl) y.1.after.toList:=p1 n _ (by rw[wo zy,hp];simp);refine⟨ps,λi l hi=>p1 i l (by rw[wh (by have:=(xQ.1 hi).1;exact this)];exact hi),λj z hz=>?_⟩;cases j with|zero=>simp at hz;subst hz;refine⟨λe he hbi=>?_,λp hpp=>?_,λi x hi hix=>?_⟩;have:=(C9 _ _).1 hb.1 e he;rw[hbi]at this;simp_all;rw[wV,hpsn]at hpp;obtain⟨e,he,hpe⟩:=c6o hpp;have hpe':p∈(match Region.binds .any e with|true=>(match O6 psl e.on with|some l=>e.on::l|none=>[])|false=>[]):=hpe;grind[a0J];rw[wh zy]at hix;have:=b9h xs 0 hb.2 i x hix;rw[wt]at this;rw[wV,hpsn];exact this|succ j=>have:=p2 j z zr;rw[show n+1+j=n+(j+1) by omega]at this;simp_all
end Go.V
end
section
namespace Go.V
open Go.RowKit (Below)
section
variable {P:Program}{T:Tab}{B0:Nat}{w0:Base}{w:World}{K:KM}{s s':S}{a:Act}{fr:List Value}{v:Value}
structure Trace (P:Program) (T:Tab) (call:Nat→List Value→M Value) (L:List Oper) (feet:List (List Nat×List Nat)) (C:Nat→Nat) (H:Nat→Trie VObj) (FR:Nat→List Value) (k n:Nat):Prop where
 op:∀ i,k≤i→i<n→∃ o ft,L[i]?=some o∧feet[i - k]?=some ft ∧
  ((Y2 L (FR i) o=true∧∃ v,M7 P T call (FR i) o.op ⟨C i,H i, [], []⟩=some (v,⟨C (i+1),H (i+1),ft.1,ft.2⟩)∧FR (i+1)=G2 (FR i) o v) ∨
   (Y2 L (FR i) o=false∧ft=([], [])∧C (i+1)=C i∧H (i+1)=H i∧FR (i+1)=G2 (FR i) o undef))
theorem c4a {call:Nat->List Value->M Value}(L:List Oper):∀(m k:Nat) (fr fr':List Value) (s s':S) (feet:List (List Nat×List Nat)),k+m=L.length->a0o P T call L (L.drop k) fr s=some ((fr',feet),s')->feet.length=m/\∃C H FR,C k=s.c/\H k=s.h/\FR k=fr/\C (k+m)=s'.c/\H (k+m)=s'.h/\FR (k+m)=fr'/\Trace P T call L feet C H FR k (k+m):=by
 intro m;induction m with
  |zero=>intro k fr fr' s s' feet hk h;have:L.drop k=[]:=uE zy;rw[this]at h;have h':M.pure (fr,([]:List (List Nat×List Nat))) s=some ((fr',feet),s'):=h;obtain⟨e,rfl⟩:=j7 h';cases e;exact⟨rfl,λ_=>_,λ_=>_,λ_=>_,rfl,rfl,rfl,rfl,rfl,rfl,⟨λi h1 h2=>zy⟩⟩|succ m ih=>
   intro k fr fr' s s' feet hk h;have hlt:k<L.length:=zy;rw[ul hlt,a5v]at h;cases hw:Y2 L fr L[k]with
    |true=>rw[hw]at h;simp only[tf]at h;obtain⟨x,s1,h1,h2⟩:=o7 h;obtain⟨y,s2,h3,h4⟩:=o7 h2;obtain⟨e,rfl⟩:=j7 h4;obtain⟨y1,y2⟩:=y;cases e;unfold M.foot at h1;cases hst:M7 P T call fr L[k].op ⟨s.c,s.h,[],[]⟩with|none=>rw[hst]at h1;cases h1|some z=>obtain⟨u,sz⟩:=z;rw[hst]at h1;simp only[v8]at h1;cases h1;obtain⟨q0,C,H,FR,q1,q2,q3,q4,q5,q6,q7⟩:=ih (k+1) _ _ _ _ _ zy h3;dsimp only at q1 q2 q3;refine⟨by simp[q0],λi=>if i=k then s.c else C i,λi=>if i=k then s.h else H i,λi=>if i=k then fr else FR i,zu,zu,zu,?_,?_,?_,⟨λi h1 h2=>?_⟩⟩;grind;grind;grind;by_cases hik:i=k;simp_all;obtain⟨o,ft,t1,t2,t3⟩:=q7.op i zy zy;grind
    |false=>rw[hw]at h;simp only[wL,vN]at h;obtain⟨y,s2,h3,h4⟩:=o7 h;obtain⟨e,rfl⟩:=j7 h4;obtain⟨y1,y2⟩:=y;cases e;obtain⟨q0,C,H,FR,q1,q2,q3,q4,q5,q6,q7⟩:=ih (k+1) _ _ _ _ _ zy h3;refine⟨by simp[q0],λi=>if i=k then s.c else C i,λi=>if i=k then s.h else H i,λi=>if i=k then fr else FR i,zu,zu,zu,?_,?_,?_,⟨λi h1 h2=>?_⟩⟩;grind;grind;grind;by_cases hik:i=k;simp_all;obtain⟨o,ft,t1,t2,t3⟩:=q7.op i zy zy;grind
theorem a3x {fr fr2:List Value}{t:Nat}(h:fr[t]?=fr2[t]?):r6 fr t=r6 fr2 t:=by rw[a1Y,a1Y,h]
theorem a0L (fr:List Value)(o:Oper)(v:Value)(t:Nat):(G2 fr o v)[t]?=if t∈a0G o/\t<fr.length then some v else fr[t]?:=by unfold G2 a0G;cases o.dst with|none=>simp|some d=>simp only[a7D,uH,wx];grind
theorem a2b (fr:List Value)(o:Oper)(v:Value):(G2 fr o v).length=fr.length:=by grind[G2,a7D]
theorem c9E {α β:Type}:∀(l:List α) (m:List β) (i:Nat) (x:α) (y:β),l[i]?=some x->m[i]?=some y->(a2v l m)[i]?=some (x,y):=by intro l;induction l with|nil=>simp_all|cons a l ih=>intro m i x y h1 h2;cases m with|nil=>simp at h2|cons b m=>show((a,b)::a2v l m)[i]?=_;grind
theorem Sim.congr {h h':Trie VObj}(S:Sim B0 w0 K h w)(e:∀j,h'.get j=h.get j):Sim B0 w0 K h' w:=⟨S.size0,S.below,S.dom',λb g l q=>by rw[e];exact S.dom2 b g l q,S.own,S.apart,S.same,λb g l cs cur ro q1 q2 q3=>S.room b g l cs cur ro q1 q2 (by rw[<-e];exact q3),λb cs cur ro q=>S.gens b cs cur ro (by rw[<-e];exact q),λb cs cur ro g l q1=>S.cells b cs cur ro g l (by rw[<-e];exact q1),λb es q=>S.map b es (by rw[<-e];exact q),λb x p q=>S.siter b x p (by rw[<-e];exact q),λb g l q hnc=>S.gen0 b g l q λcs cur ro e'=>hnc cs cur ro (by rw[e];exact e')⟩
structure Inv (B0:Nat) (w0:Base) (T:Tab) (K0:KM) (cn n len0:Nat) (H:Nat→Trie VObj) (FR:Nat→List Value) (dw dst ps:Nat→List Nat) (ds:List Deferred) (D:Nat→Bool) (a:Act) (w:World) (K:KM) (hD:Trie VObj) (fD:List Value):Prop where
 heap:∀ id,hD.get id=a4b (fun i=>(H i).get id) D (fun i=>decide (id∈dw i)) n
 flen:fD.length=len0
 tmps:∀ t,fD[t]?=a4b (fun i=>(FR i)[t]?) D (fun i=>decide (t∈dst i)) n
 sim:Sim B0 w0 K hD w
 vrl:VRL K a.tmps.toList fD
 gk:GK T K
 le:K0.le K
 far:∀ i g,cn≤i→K i g=K0 i g
 defs:a.defers=ds
 closed:∀ j,j<n→D j=true→∀ p,p∈ps j→D p=true
theorem b1V (hT:TabOk P T)(hM:P.follows .mixedOrders=true){call:Nat->List Value->M Value}(hC:a2N P T B0 w0 call)(hF:∀f vs,Fr (call f vs)){id:Nat}(ops:Array Oper){Q:Exit->Act->World->Prop}{fr':List Value}{feet:List (List Nat×List Nat)}(h:a0o P T call ops.toList ops.toList fr s=some ((fr',feet),s'))(hok:a0U ops.toList (a2v ops.toList feet) [] [] 0=true)(S:Sim B0 w0 K s.h w)(F:Q0 K s s')(hf:VRL K a.tmps.toList fr)(hg:GK T K)(hq:∀a' w' K',Step B0 w0 K s' w' K'->VRL K' a'.tmps.toList fr'->a'.defers=a.defers->Q .normal a' w'):(Code.region id ops true).wp P Q a w:=by
 obtain⟨hlen,C,H,FR,c1,c2,c3,c4,c5,c6,tr⟩:=c4a (P:=P) (T:=T) (call:=call) ops.toList ops.size 0 fr fr' s s' feet zu zr;rw[wt]at c4 c5 c6 tr;obtain⟨ps,_,hps⟩:=c0I _ _ _ _ hok rfl rfl;simp only[wt,wQ]at hps;let dw:Nat->List Nat:=λi=>((feet[i]?).getD ([],[])).2;let dr:Nat->List Nat:=λi=>((feet[i]?).getD ([],[])).1;let dst:Nat->List Nat:=λi=>((ops.toList[i]?).map a0G).getD [];have hop:∀i,i<ops.size->∃o,ops[i]?=some o/\ops.toList[i]?=some o/\dst i=a0G o/\(a2v ops.toList feet)[i]?=some (o,(dr i,dw i))/\((Y2 ops.toList (FR i) o=true/\∃v,M7 P T call (FR i) o.op ⟨C i,H i,[],[]⟩=some (v,⟨C (i+1),H (i+1),dr i,dw i⟩)/\FR (i+1)=G2 (FR i) o v)\/(Y2 ops.toList (FR i) o=false/\dr i=[]/\dw i=[]/\C (i+1)=C i/\H (i+1)=H i/\FR (i+1)=G2 (FR i) o undef)):=by intro i hi;obtain⟨o,ft,t1,t2,t3⟩:=tr.op i (wR _) hi;rw[uJ]at t2;have e1:dr i=ft.1:=zr;have e2:dw i=ft.2:=zr;refine⟨o,zr,t1,zr,?_,?_⟩;rw[c9E _ _ i o ft t1 t2,e1,e2];grind
 have hfoot:∀i,i<ops.size->C i<=C (i+1)/\(∀x,x∈dw i->x<C (i+1))/\(∀x,C i<=x->x<C (i+1)->x∈dw i)/\(∀x,x∉dw i->(H (i+1)).get x=(H i).get x):=by intro i hi;obtain⟨o,_,_,_,_,t⟩:=hop i hi;rcases t with⟨_,v,a2,_⟩|⟨_,_,b2,b3,b4,_⟩;obtain⟨r0,w0',e1,e2,e3,e4,e5,e6,e7,e8⟩:=Fr.stepOp P T hF _ _ _ _ _ a2;simp_all;simp_all
 have hmono:∀i j,i<=j->j<=ops.size->C i<=C j:=by intro i j hij;induction j with|zero=>simp_all|succ j ih=>grind
 have hclash:∀i j,i<j->j<ops.size->i∈ps j\/((∀x,x∈dw i->x∉dr j)/\(∀x,x∈dw i->x∉dw j)/\(∀x,x∈dw j->x∉dr i)/\(∀o o',ops.toList[i]?=some o->ops.toList[j]?=some o'->(∀t,t∈dst i->t∉a1r ops.toList o')/\(∀t,t∈dst i->t∉dst j)/\(∀t,t∈dst j->t∉a1r ops.toList o))):=by intro i j hij hj;obtain⟨oj,_,j1,j2,j3,_⟩:=hop j hj;obtain⟨oi,_,i1,i2,i3,_⟩:=hop i zy;rcases(hps j _ j3).2.2 i _ hij i3 with q|q;grind;obtain⟨f1,f2,f3,f4,f5,f6⟩:=c6S q;simp_all
 have hXh:∀x k,k<ops.size->decide (x∈dw k)=false->(H (k+1)).get x=(H k).get x:=λx k hk hd=>(hfoot k hk).2.2.2 x zr;have hXt:∀t k,k<ops.size->decide (t∈dst k)=false->(FR (k+1))[t]?=(FR k)[t]?:=by
  intro t k hk hd;obtain⟨o,_,_,d1,_,q⟩:=hop k hk;have hnd:t∉a0G o:=by rw[<-d1];grind
  rcases q with⟨_,v,_,e⟩|⟨_,_,_,_,_,e⟩<;>rw[e,a0L,wX (λq=>hnd q.1)]
 have hlenF:∀k,k<=ops.size->(FR k).length=fr.length:=by intro k;induction k with|zero=>simp_all|succ k ih=>intro hk;obtain⟨o,_,_,_,_,q⟩:=hop k zy;rcases q with⟨_,v,_,e⟩|⟨_,_,_,_,_,e⟩<;>rw[e,a2b,ih zy]
 refine wp_region_any hM ?_;have key:∀(fuel:Nat) (listed:Array Bool) (a1:Act) (w1:World) (U:List Nat),listed.size=ops.size->U.length=fuel->U.Nodup->(∀j,j<ops.size->(listed.getD j false=false↔j∈U))->(∀j,j∈U->j<ops.size)->(∃K1 hD fD,Inv B0 w0 T K s'.c ops.size fr.length H FR dw dst ps a.defers (λj=>listed.getD j false) a1 w1 K1 hD fD)->wpAny P .any ops Q fuel listed a1 w1:=by
  intro fuel;have hend:∀(listed:Array Bool) (a1:Act) (w1:World),(∀j,j<ops.size->listed.getD j false=true)->(∃K1 hD fD,Inv B0 w0 T K s'.c ops.size fr.length H FR dw dst ps a.defers (λj=>listed.getD j false) a1 w1 K1 hD fD)->Q .normal a1 w1:=by
   intro listed a1 w1 hall ⟨K1,hD,fD,I⟩;have e1:∀x,s'.h.get x=hD.get x:=λx=>by rw[I.heap x,c0m (hXh x) hall,c5]
   have e2:fD=fr':=by apply wE;intro t;rw[I.tmps t,c0m (hXt t) hall,c6]
   subst e2;exact hq a1 w1 K1 ⟨I.le,I.far,I.sim.congr e1⟩ I.vrl I.defs
  have hgetD:∀(listed:Array Bool) i,listed.size=ops.size->i<ops.size->listed.getD i true=listed.getD i false:=zq;induction fuel with
   |zero=>intro listed a1 w1 U hsz hU hnd hUU hUn hI;have hall:∀j,j<ops.size->listed.getD j false=true:=zq;refine⟨?_,hend listed a1 w1 hall hI⟩;grind[Region.ready,List.filter_eq_nil_iff]|succ fuel ih=>
    intro listed a1 w1 U hsz hU hnd hUU hUn hI;refine⟨λhr=>?_,λi hi=>?_⟩;exfalso;obtain⟨u,hu,hmin⟩:∃u,u∈U/\∀x,x∈U->u<=x:=by
     have hne:∃x,x∈U:=by cases U with|nil=>simp at hU|cons x U=>simp_all
     obtain⟨x,hx⟩:=hne;have:∀m x,x<=m->x∈U->∃u,u∈U/\∀x,x∈U->u<=x:=by intro m;induction m with|zero=>grind|succ m ihm=>intro x h1 h2;by_cases hh:∃y,y∈U/\y<=m;obtain⟨y,y1,y2⟩:=hh;exact ihm y y2 y1;grind
     exact this x x (xR _) hx
    have hun:=hUn u hu;obtain⟨o,o1,o2,_,o3,_⟩:=hop u hun;have hmem:u∈Region.ready .any ops listed:=by unfold Region.ready;rw[List.mem_filter];refine⟨zr,?_⟩;rw[hgetD listed u hsz hun,(hUU u hun).2 hu,o1];simp only[vt,vj,tY,Option.getD_some];rw[tn];grind
    rw[hr]at hmem;cases hmem;obtain⟨K1,hD,fD,I⟩:=hI;unfold Region.ready at hi;rw[List.mem_filter]at hi;have hin:i<ops.size:=zq;obtain⟨o,o1,o2,o3,o4,o5⟩:=hop i hin;have hi2:=hi.2;rw[hgetD listed i hsz hin,o1]at hi2;simp only[tY,Option.getD_some,xM,vS]at hi2;obtain⟨hnl,hed⟩:=hi2;rw[tn]at hed;let D:Nat->Bool:=λj=>listed.getD j false;let D':Nat->Bool:=λj=>(listed.setIfInBounds i true).getD j false;have hD':∀j,D' j=if j=i then true else D j:=by intro j;show(listed.setIfInBounds i true).getD j false=_;by_cases hj:j=i;simp_all;rw[wX hj];show _=listed.getD j false;simp only[uQ,tI];rw[wX (λq=>hj q.symm)]
    have hpsD:∀p,p∈ps i->D p=true:=by
     intro p hp;obtain⟨e,he,hb,hpe⟩:=(hps i _ o4).2.1 p hp;have he1:D e.on=true:=by have:=hed e zr;rw[hb]at this;grind
     have hlt:=(hps i _ o4).1 e he hb;rcases hpe with rfl|hpe;exact he1;exact I.closed e.on zy he1 p hpe
    have hside:∀j,j<ops.size->j≠i->(¬(j<i/\j∉ps i))/\(¬(i<j/\D j=true/\i∉ps j))->True:=λ_ _ _ _=>trivial;have hagreeH:∀x,(x∈dr i\/x∈dw i)->∀j,j<ops.size->x∈dw j->(D j=true↔j<i):=by intro x hx j hj hxj;rcases tA j i with hlt|rfl|hgt;grind;grind;refine⟨λq=>?_,λq=>zy⟩;rcases hclash i j hgt hj with q'|⟨q1,q2,q3,_⟩;have:=I.closed j hj q i q';have hf:D i=false:=hnl;rw[show D i=true from this]at hf;cases hf;simp_all
    have hagreeT:∀t,(t∈a1r ops.toList o\/t∈dst i)->∀j,j<ops.size->t∈dst j->(D j=true↔j<i):=by intro t ht j hj htj;rcases tA j i with hlt|rfl|hgt;grind;grind;refine⟨λq=>?_,λq=>zy⟩;rcases hclash i j hgt hj with q'|⟨_,_,_,q4⟩;have:=I.closed j hj q i q';have hf:D i=false:=hnl;rw[show D i=true from this]at hf;cases hf;simp_all
    have hH:∀x,(x∈dr i\/x∈dw i)->hD.get x=(H i).get x:=λx hx=>by rw[I.heap x];exact a9G (hXh x) i (λj hj hw=>hagreeH x hx j hj zr) zy
    have hFt:∀t,(t∈a1r ops.toList o\/t∈dst i)->fD[t]?=(FR i)[t]?:=λt ht=>by rw[I.tmps t];exact a9G (hXt t) i (λj hj hw=>hagreeT t ht j hj zr) zy
    obtain⟨hstep,hwant⟩:=b2g (P:=P) (T:=T) (call:=call) (ops:=ops.toList) (o:=o) (fr:=fD) (fr2:=FR i) (λt ht=>a3x (hFt t (Or.inl ht)));have hnext:∀(v:Value) (hD2:Trie VObj) (K2:KM) (v':Value) (w2:World),FR (i+1)=G2 (FR i) o v->(∀x,x∈dw i->hD2.get x=(H (i+1)).get x)->(∀x,x∉dw i->hD2.get x=hD.get x)->Sim B0 w0 K2 hD2 w2->K1.le K2->(∀x g,s'.c<=x->K2 x g=K1 x g)->VR K2 v' v->wpAny P .any ops Q fuel (listed.setIfInBounds i true) (a1.put o.dst v') w2:=by intro v hD2 K2 v' w2 e1 e2 e3 e4 e5 e6 e7;refine ih _ _ _ (U.erase i) (by simp[hsz]) ?_ (hnd.erase i) (λj hj=>?_) (λj hj=>hUn j (List.mem_of_mem_erase hj)) ⟨K2,hD2,G2 fD o v,⟨λx=>?_,by rw[a2b];exact I.flen,λt=>?_,e4,a6r (I.vrl.mono e5) o e7,I.gk.mono e5,KM.le_trans I.le e5,λx g hx=>(e6 x g hx).trans (I.far x g hx),by rw[a0M];exact I.defs,λj hj hd p hp=>?_⟩⟩;have:i∈U:=(hUU i hin).1 hnl;rw[List.length_erase_of_mem this,hU];rfl;have:=hD' j;show D' j=false↔_;rw[this,hnd.mem_erase_iff];grind;show _=a4b _ D' _ _;by_cases hx:x∈dw i;rw[e2 x hx,c1o (n:=ops.size) i hin (by rw[hD' i,wT rfl]) zr (λj h1 h2 h3=>?_)];rw[hD' j,wX zy]at h3;grind;rw[e3 x hx,I.heap x];refine(b7Z λj hj hw=>?_).symm;rw[hD' j,wX (λq=>hx zq)];show _=a4b _ D' _ _;by_cases ht:t∈dst i;rw[c1o (n:=ops.size) i hin (by rw[hD' i,wT rfl]) zr (λj h1 h2 h3=>?_)];rw[e1,a0L,a0L,hFt t (Or.inr ht),I.flen,hlenF i zy];rw[hD' j,wX zy]at h3;grind;rw[a0L,wX (λq=>ht (by rw[o3];exact q.1)),I.tmps t];refine(b7Z λj hj hw=>?_).symm;rw[hD' j,wX (λq=>ht zq)];have hdj:D' j=true:=hd;show D' p=true;rw[hD' j]at hdj;rw[hD' p];by_cases hji:j=i;simp_all;rw[wX hji]at hdj;have:=I.closed j hj hdj p hp;split<;>first|rfl|exact this
    unfold wpOp;rw[o1];dsimp only;rw[a7y ops a1.tmps I.vrl,hwant];rcases o5 with⟨b1,v,b2,b3⟩|⟨b1,b2,b3,b4,b5,b6⟩;rw[b1,wT rfl];left;obtain⟨r0,w0',e1,e2,e3,e4,e5,e6,e7,e8⟩:=Fr.stepOp P T hF _ _ _ _ _ b2;simp only[xJ]at e1 e2;subst e1 e2;obtain⟨h2',q1,q2,q3⟩:=e8 hD [] [] (λx hx _=>hH x hx);rw[<-hstep]at q1;have hfree:Q0 K1 ⟨C i,hD,[],[]⟩ ⟨C (i+1),h2',dr i++[],dw i++[]⟩:=by intro x hx1 hx2;show hD.get x=none;have hx1:C i<=x:=hx1;have hx2:x<C (i+1):=hx2;rw[I.heap x,b1e (λj hj hd=>?_)];show(H 0).get x=none;rw[c2];have h0:=hmono 0 i (wR _) zy;have hn:=hmono (i+1) ops.size zy (xR _);exact F x (by rw[<-c1];omega) (by rw[<-c4];omega);grind
    refine a8x hT hC q1 I.sim hfree I.vrl I.gk λv' w2 K2 st r=>?_;refine hnext v h2' K2 v' w2 b3 q2 q3 st.sim st.le (λx g hx=>st.far x g ?_) r;have hn:=hmono (i+1) ops.size zy (xR _);grind;rw[b1];simp only[wL,vN];exact hnext undef hD K1 undef w1 b6 (λx hx=>by rw[b3]at hx;cases hx) (λ_ _=>rfl) I.sim (KM.le_refl _) (λ_ _ _=>rfl) (VR.undef K1)
 refine key ops.size (Array.replicate ops.size false) a _ (List.range ops.size) zu zu List.nodup_range (λj hj=>by simp[hj]) (λj hj=>zr) ?_;refine⟨K,s.h,fr,⟨λx=>?_,rfl,λt=>?_,a4h S (Grew.drew w),hf,hg,KM.le_refl K,λ_ _ _=>rfl,rfl,λj hj hd=>?_⟩⟩;rw[b1e (λj hj hd=>by simp[hj]at hd),c2];rw[b1e (λj hj hd=>by simp[hj]at hd),c3];simp_all
end
end Go.V
end
