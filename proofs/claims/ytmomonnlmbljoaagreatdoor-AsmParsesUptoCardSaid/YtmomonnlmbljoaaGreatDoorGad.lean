import Derived.Test.YtmomonnlmbljoaaGreatDoorGaa
import Derived.Test.YtmomonnlmbljoaaGreatDoorGac
set_option maxRecDepth 1000000
set_option maxHeartbeats 4000000
set_option linter.unusedVariables false
set_option linter.unusedSimpArgs false
section
namespace Go.V
open Go.RowKit (Below)
section
variable {P:Program}{T:Tab}{B0:Nat}{w0:Base}{w:World}{K:KM}{s s':S}{a:Act}{fr:List Value}{v:Value}
theorem b3J:∀(vs) (bs),b3T vs=some bs->∃ns:List Int,vs=ns.map (λn=>Value.int .u8 n)/\bs=ns.map λn=>UInt8.ofNat n.toNat
 |[],bs,h=>by cases h;simp_all|v::vs,bs,h=>by
  have h':(match b7W v with|none=>none|some b=>(match b3T vs with|some bs=>some (b::bs)|none=>none))=some bs:=h;cases hb:b7W v with
   |none=>rw[hb]at h';cases h'|some b=>
    rw[hb]at h';cases hr:b3T vs with
     |none=>rw[hr]at h';cases h'|some bs1=>
      rw[hr]at h';cases h';obtain⟨ns,e1,e2⟩:=b3J vs bs1 hr;cases v with
       |int k n=>cases k with|u8=>cases hb;exact⟨n::ns,by rw[e1];rfl,by rw[e2];rfl⟩|_=>cases hb
       |_=>cases hb
theorem c6p (ns:List Int):∀(acc:ByteArray),ns.foldl (λr n=>r.push (UInt8.ofNat n.toNat)) acc=⟨⟨acc.data.toList++ns.map λn=>UInt8.ofNat n.toNat⟩⟩:=by induction ns<;>simp_all
theorem c5O (hT:TabOk P T){src dst x}(h:a4r T fr src dst x s=some (v,s'))(S:Sim B0 w0 K s.h w)(F:a0z K s s')(hf:VRL K a.tmps.toList fr)(hg:GK T K):S9 P B0 w0 K s' (do pure (Next.value (<-convert src dst (a.eval x)))) w v:=by
 obtain⟨vx,e1,h1⟩:=a0j h;obtain⟨sd,hs,h2⟩:=X9 h1;obtain⟨dd,hd,h3⟩:=X9 h2;have rx:=O7 hf hg e1;have us:=λw=>Z7 (P:=P) hT hs w;have ud:=λw=>Z7 (P:=P) hT hd w;generalize hu:dd.und=u at h3 ud;cases u with
  |int k=>cases vx with|int k' n=>obtain⟨rfl,rfl⟩:=y8 h3;have ex:=rx.eq_of_plain rfl;refine S9.quiet S rfl (v':=.int k (k.wrap n)) ?_ (by rw[a5Z];exact .plain rfl);rw[ex];simp[convert,us,ud,Conv.intToInt]|_=>exact absurd h3 zk
  |slice e=>
   cases vx with
    |string b=>
     obtain⟨i,hi,h4⟩:=X9 h3;obtain⟨hgd,h5⟩:=I4 h4;obtain⟨ad,s1,h6,h7⟩:=E8 h5;obtain⟨rfl,rfl⟩:=y8 h7;have ex:=rx.eq_of_plain rfl;simp only[wh,J2]at hgd;have hlen:b.data.toList.length=b.size:=rfl;have hby:i.und=.int .u8:=by
      have:=hgd.1;cases hiu:i.und with
       |int k=>cases k<;>first|rfl|(rw[hiu]at this;cases this)
       |_=>rw[hiu]at this;cases this
     rw[a1z]at h6;have hv:VRL K (b.data.toList.map a7b) (b.data.toList.map a7b):=VRL.refl_plain _ (λy hy=>by obtain⟨z,_,rfl⟩:=uj.1 hy;rfl);let cap:=(Question.appendCap b.size 0 e).cut (w.tape w.drawn (Question.appendCap b.size 0 e));have hcap:b.size<=cap:=by show b.size<=b.size+_%_;omega
     let arr:Array Value:=b.data.map (λx=>Value.int .u8 x.toNat)++Array.replicate (cap-b.size) (.int .u8 0);have harr:arr.toList=b.data.toList.map a7b++List.replicate (cap-b.size) (.int .u8 0):=by simp only[arr,tO,Array.toList_map,tC];rfl
     have hasz:arr.size=cap:=by rw[<-vF,harr];simp_all
     let w1:World:=(w.drew.alloc (.cells arr e));let w2:World:=w1.freeze {block:=w.heap.size,off:=arr.size} 1;have hblk:w2.heap[w.heap.size]?=some (.cells arr e (arr.size,arr.size+1)):=by show((w.heap.push (.cells arr e (0,0))).modify w.heap.size _)[w.heap.size]?=_;rw[sW,vX rfl,qH];rfl
     have G:Grew w w2:=by refine⟨rfl,rfl,rfl,?_,?_⟩;grind;intro k hk;show((w.heap.push (.cells arr e (0,0))).modify w.heap.size _)[k]?=_;rw[sW,vg zy,Array.getElem?_push,vg zy]
     obtain⟨K',k1,k2,rfl⟩:=a5X (w':=w2) (arr:=arr) (e:=e) h6 S F hv G hblk harr (λo ho=>zy);refine S9.step (v':=.slice (some ⟨w.heap.size,0,none⟩) b.size cap) (w':=w2) ?_ k1 ?_;rw[ex];have ue:=λw=>Z7 (P:=P) hT hi w;rw[hby]at ue;simp only[convert,wQ,us,ud,wV];cases sd.und<;>(simp only[wQ,ue,wV,Conv.stringToBytes,run_choose,Question.forced,vS,uS,newRow,pF,wI,markStringish,run_shape];simp only[World.shape?,qH];rfl);rw[J2];refine VR.slice (off:=0) k2 (vY _) zy hcap (Or.inr rfl) (Or.inr ⟨rfl,rfl,λ_=>?_⟩);simp_all|_=>exact absurd h3 zk
  |string=>
   cases vx with
    |string b=>obtain⟨rfl,rfl⟩:=y8 h3;have ex:=rx.eq_of_plain rfl;refine S9.quiet S rfl (v':=.string b) ?_ (.plain rfl);rw[ex];simp_all[convert]|int k n=>obtain⟨rfl,rfl⟩:=y8 h3;have ex:=rx.eq_of_plain rfl;refine S9.quiet S rfl (v':=.string (Utf8.encode n)) ?_ (.plain rfl);rw[ex];simp only[convert,wQ,us,ud,wV];cases sd.und<;>rfl|slice o len es=>
     generalize hsu:sd.und=su at h3 us;cases su with
      |slice e=>
       obtain⟨_,h4⟩:=I4 h3;obtain⟨i,hi,h5⟩:=X9 h4;obtain⟨hgd,h6⟩:=I4 h5;obtain⟨vs,s1,h7,h8⟩:=E8 h6;obtain⟨bs,hbs,h9⟩:=H9 h8;obtain⟨rfl,rfl⟩:=y8 h9;obtain⟨n,vs',c1,c2,c3,c4,c5,c6⟩:=b7u (P:=P) h7 zy S rx;have hby:i.und=.int .u8:=by
        cases hiu:i.und with
         |int k=>cases k<;>first|rfl|(rw[hiu]at hgd;cases hgd)
         |_=>rw[hiu]at hgd;cases hgd
       have ue:=λw=>Z7 (P:=P) hT hi w;rw[hby]at ue;obtain⟨ns,e2,e3⟩:=b3J vs bs hbs;have hvs:vs'=ns.map (λn=>Value.int .u8 n):=by
        apply vK;intro j;rw[<-e2];cases hj:vs[j]? with
         |none=>rw[wT (by rw[c3.len];simp_all)]|some z=>
          obtain⟨z',q1,q2⟩:=c3.get? hj;rw[q1];have:z∈ns.map (λn=>Value.int .u8 n):=by rw[<-e2];grind
          obtain⟨m,_,rfl⟩:=uj.1 this;rw[q2.eq_of_plain rfl]
       refine S9.quiet S c5 (v':=.string ⟨⟨bs⟩⟩) ?_ (.plain rfl);have hconv:(convert src dst (a.eval x)).run P w=(Conv.bytesToString (a.eval x)).run P w:=by rcases a3Q rx with⟨_,ad',cap,_,p2,_⟩|⟨_,_,_,p4⟩;rw[p2];simp_all[convert];simp_all[convert]
       rw[hconv];rcases a3Q rx with⟨_,ad',cap,_,p2,_⟩|⟨_,_,_,p4⟩;rw[p2]at c1 c2⊢;have hn:n=len:=by have:=c1 w;simp_all[Builtin.lenOf]
       have hl:(loadCells ad' len).run P w=.ok ((ns.map (λn=>Value.int .u8 n)).toArray) w:=by have:=c2 w (λ_=>rfl);rw[hvs,hn]at this;grind[Builtin.firstCells]
       rw[run_bytesToString w ad' len cap ns hl,c6p,e3];simp;rw[p4]at c1 c2⊢;have hn:n=0:=by have:=c1 w;simp_all[Builtin.lenOf]
       have:vs'=[]:=sj (by rw[c4,hn]);rw[this]at hvs;have hns:ns=[]:=zu;rw[e3,hns];rfl|_=>exact absurd h3 zk
    |_=>cases hq:sd.und<;>rw[hq]at h3<;>exact absurd h3 zk
  |_=>exact absurd h3 zk
theorem c6Y (hT:TabOk P T){b args ts ty consts}(h:a0L P T fr b args ts s=some (v,s'))(S:Sim B0 w0 K s.h w)(F:a0z K s s')(hf:VRL K a.tmps.toList fr)(hg:GK T K):S9 P B0 w0 K s' (builtin b ts ty consts (args.map a.eval)) w v:=by
 obtain⟨vs,e1,h1⟩:=a6C h;have r:=a6i hf hg e1;have hargs:args.map a.eval=(args.toList.map a.eval).toArray:=zu;rw[hargs];cases b with
  |append=>obtain⟨hlen2,h2⟩:=I4 h1;rw[J2]at hlen2;obtain⟨v',w',K',q1,q2,q3⟩:=c6I (ty:=ty) hT (by rw[r.len];simp_all) h2 S F r;exact S9.step q1 q2 q3|len=>
   obtain⟨t,e2,h2⟩:=H9 h1;obtain⟨d,hd,h3⟩:=X9 h2;obtain⟨x,e3,h4⟩:=H9 h3;rw[a2E,a7G]at e2;rw[a2E]at e3;obtain⟨x',e4,rx⟩:=r.get? e3;have e4':(args.toList.map a.eval).toArray[0]?=some x':=zu;have hu:=Z7 (P:=P) hT hd w;have hlen:∃n,(Builtin.len_ ts ty (args.toList.map a.eval).toArray).run P w=.ok (goInt n) w/\v=goInt n/\s'.h=s.h:=by
    unfold Builtin.len_;simp only[e2,e4'];simp only[wQ,hu,wV];unfold d1r at h4;generalize d.und=u at*;cases u with
     |array n e=>obtain⟨rfl,rfl⟩:=y8 h4;exact⟨n,rfl,rfl,rfl⟩|string=>cases x with|string p=>obtain⟨rfl,rfl⟩:=y8 h4;rw[rx.eq_of_plain rfl];exact⟨p.size,rfl,by rw[J2];rfl,rfl⟩|_=>exact absurd h4 zk
     |slice e=>cases x with|slice o n es=>obtain⟨rfl,rfl⟩:=y8 h4;rcases a3Q rx with⟨_,ad',cap,_,p2,_⟩|⟨_,p2,_,p4⟩;rw[p2];exact⟨n,rfl,rfl,rfl⟩;rw[p4,p2];exact⟨0,rfl,rfl,rfl⟩|_=>exact absurd h4 zk
     |map k e=>obtain⟨es,s1,h5,h6⟩:=E8 h4;obtain⟨rfl,rfl⟩:=y8 h6;obtain⟨c1,c2,c3⟩:=b0Y h5 S rx;rcases c3 with⟨q1,rfl⟩|⟨b,l,es',clock,_,q2,q3,q4,q5,q6,q7⟩;rw[q1];exact⟨0,rfl,rfl,c1⟩;rw[q2];simp only[wQ,a6t q6 zm,wV,wI];exact⟨es'.size,rfl,by rw[J2,<-q7.len];simp,c1⟩|_=>exact absurd h4 zk
   obtain⟨n,q1,rfl,q3⟩:=hlen;exact S9.quiet S q3 q1 (.plain rfl)|max=>obtain⟨hp,h2⟩:=I4 h1;obtain⟨z,hz,hna,rfl,rfl⟩:=b0J h2;have hvs:args.toList.map a.eval=vs:=yu;rw[hvs];exact S9.quiet S rfl (a6S hz w) (a0S _ _ hna)|min=>obtain⟨hp,h2⟩:=I4 h1;obtain⟨z,hz,hna,rfl,rfl⟩:=b0J h2;have hvs:args.toList.map a.eval=vs:=yu;rw[hvs];exact S9.quiet S rfl (a6S hz w) (a0S _ _ hna)|_=>exact absurd h1 zk
theorem c1K (hT:TabOk P T){o}(h:O6 P T fr o.op s=some (v,s'))(S:Sim B0 w0 K s.h w)(F:a0z K s s')(hf:VRL K a.tmps.toList fr)(hg:GK T K):S9 P B0 w0 K s' (execOp a.eval o) w v:=by obtain⟨dst,op,type,pos,after,guard⟩:=o;cases op with|move x=>exact c5I h S hf hg|assign x=>exact c5I h S hf hg|pick c x y=>exact d6u h S hf hg|alloc t=>exact d3g hT h S F|box t x=>exact e0o h S F hf hg|build t ps=>exact d1I hT h S hf hg|buildSlice t len ps=>exact b9f hT h S F hf hg|load t x=>exact d7a hT h S hf hg|store t x y=>exact d3C hT h S hf hg|nilCheck x=>exact c4a rfl h S hf hg|binOp op t x y yt=>exact d9n hT h S hf hg|unOp op t x=>exact e3u h S hf hg|convert x y z=>exact c5O hT h S F hf hg|makeInterface t x=>exact d2d hT h S hf hg|makeFunc fn x y=>exact d5P h S hf hg|makeMap t r=>exact d7F hT h S F hf hg|makeSlice t x y=>exact d5H hT h S F hf hg|slice t x lo hi mx=>exact d2l hT h S hf hg|fieldAddr t x f=>exact c1V hT h S hf hg|field t x f=>exact d2K hT h S hf hg|indexAddr t x i=>exact c3A hT h S hf hg|index t x i=>exact d1X hT h S hf hg|lookup t x i ok=>exact c8j hT h S hf hg|mapUpdate t m k x=>exact b8Z hT h S hf hg|insert t m k x=>exact b8Z hT h S hf hg|range t x=>exact d3B hT h S F hf hg|next x str=>exact d6l h S hf hg|extract x i=>exact c7m h S hf hg|_=>exact absurd h zk
def a4O (P:Program)(T:Tab)(B0:Nat)(w0:Base)(call:Nat->List Value->M Value):Prop:=∀f vs s v s' w K vs',call f vs s=some (v,s')->Sim B0 w0 K s.h w->GK T K->a0z K s s'->VRL K vs' vs->(∃v' w' K',(callFunc f vs'.toArray).run P w=.ok (.value v') w'/\Step B0 w0 K s' w' K'/\VR K' v' v)\/((callFunc f vs'.toArray).run P w=.ok (.enter f vs'.toArray) w/\Calls P f vs'.toArray w λe w'=>∃v' K',e=.returned v'/\Step B0 w0 K s' w' K'/\VR K' v' v)
theorem b7D {x' fn x y}(r:VR K x' (.func fn x y)):∃x1 y1,x'=.func fn x1 y1/\VRL K x1.toList x.toList/\VRL K y1.toList y.toList:=by generalize hv:Value.func fn x y=z at r;cases r with|plain hp=>grind[V.plain]|func h1 h2 h3 h4=>cases hv;exact⟨_,_,rfl,⟨h1,h2⟩,⟨h3,h4⟩⟩|_=>cases hv
theorem b0G (hT:TabOk P T){call}(hC:a4O P T B0 w0 call){o:Oper}(h:Z8 P T call fr o.op s=some (v,s'))(S:Sim B0 w0 K s.h w)(F:a0z K s s')(hf:VRL K a.tmps.toList fr)(hg:GK T K){next}{Q}(hn:∀v' w' K',Step B0 w0 K s' w' K'->VR K' v' v->next (a.put o.dst v') w'):o.wp P a w next Q:=by
 have good:S9 P B0 w0 K s' (execOp a.eval o) w v->o.wp P a w next Q:=by rintro⟨n,w',K',r1,r2,r3⟩;unfold Oper.wp;rw[r1];rcases r3 with⟨v',rfl,r⟩|⟨rfl,rfl⟩;exact hn v' w' K' r2 r;exact hn undef w' K' r2 (VR.undef K')
 unfold Z8 at h;cases hc:b1b o.op with
  |none=>rw[hc]at h;grind[c1K]|some c=>
   rw[hc]at h;have hop:o.op=.call c:=by cases ho:o.op<;>rw[ho]at hc<;>first|(cases hc;rfl)|cases hc
   have h':b1c P T call fr c s=some (v,s'):=h;have hex:execOp a.eval o=(do let d<-resolve a.eval c o.type;invoke d.target d.args):=by grind[execOp]
   unfold b1c at h';cases hcal:c.callee with
    |builtin b=>rw[hcal]at h';grind[c6Y,resolve,invoke]|value f=>
     rw[hcal]at h';obtain⟨vf,e1,h1⟩:=a0j h';obtain⟨vs,e2,h2⟩:=a6C h1;have rf:=O7 hf hg e1;have rs:=a6i hf hg e2;cases vf with
      |func fn first captured=>
       cases fn with
        |func g=>
         have h3:call g (I9 first.toList (I9 vs captured.toList)) s=some (v,s'):=h2;rw[V7,V7]at h3;obtain⟨f1,c1,ef,rf1,rc1⟩:=b7D rf;have rargs:VRL K (f1.toList++(c.args.toList.map a.eval++c1.toList)) (first.toList++(vs++captured.toList)):=rf1.append (rs.append rc1);have e:execOp a.eval o=callFunc g (f1.toList++(c.args.toList.map a.eval++c1.toList)).toArray:=by rw[hex];unfold resolve;rw[hcal];show(do let d<-Deferred.ofValue (a.eval f) (c.args.map a.eval);invoke d.target d.args)=_;rw[ef];show callFunc g (f1++c.args.map a.eval++c1)=_;congr 1;simp_all
         rcases hC g _ s v s' w K _ h3 S hg F rargs with⟨v',w',K',q1,q2,q3⟩|⟨q1,q2⟩;exact good ⟨.value v',w',K',by rw[e];exact q1,q2,Or.inl ⟨v',rfl,q3⟩⟩;unfold Oper.wp;rw[e,q1];refine q2.mono λen w' hq=>?_;grind|_=>exact absurd h2 zk
      |_=>exact absurd h2 zk
    |invoke r m=>rw[hcal]at h';cases h'
theorem a9I (ops tmps)(hf:VRL K tmps.toList fr)(o):Region.wanted o (yielded ops tmps)=a1T ops.toList fr o:=by
 unfold Region.wanted a1T;cases o.guard with
  |none=>rfl|some jb=>
   obtain⟨j,b⟩:=jb;show(yielded ops tmps j==some b)=(match a4k ops.toList j with|some t=>a1O b (C8 fr t)|none=>false);have hd:a4k ops.toList j=(ops[j]?).bind (·.dst):=by grind[a4k,a2E]
   rw[hd];unfold yielded;cases ho:ops[j]? with
    |none=>rfl|some o'=>
     simp only[Option.bind_some];cases o'.dst with
      |none=>rfl|some t=>
       show((match tmps[t]? with|some (.bool b)=>some b|_=>none)==some b)=a1O b (C8 fr t);have r:=hf.lget t;rw[a4f tmps.toList,a7G]at r;cases ht:tmps[t]? with
        |none=>
         have:C8 fr t=undef:=by rw[a4f,wT];rfl;rw[<-hf.len];grind
         rw[this];rfl|some x=>
         rw[ht]at r;have r:VR K x (C8 fr t):=r;generalize C8 fr t=y at r;cases r with
          |plain hp=>cases x<;>first|rfl|grind[bool]
          |_=>rfl
theorem a8y {K'}(hf:VRL K' a.tmps.toList fr)(o){v'}(r:VR K' v' v):VRL K' (a.put o.dst v').tmps.toList (Q8 fr o v):=by unfold Act.put Q8;cases o.dst with|none=>exact hf|some t=>have:=hf.lset t r;simp_all
theorem a2J (a:Act)(d v):(a.put d v).defers=a.defers:=by cases d<;>rfl
theorem Step.trans {s1 s2 w1 w2 K1 K2}(h1:Step B0 w0 K s1 w1 K1)(h2:Step B0 w0 K1 s2 w2 K2)(hc:s1.c<=s2.c):Step B0 w0 K s2 w2 K2:=⟨KM.le_trans h1.le h2.le,λi g hi=>(h2.far i g hi).trans (h1.far i g (wL hc hi)),h2.sim⟩
theorem a0z.right {α}{m:M α}{x s1 s2 K1}(F:a0z K s s2)(hm:Fr m)(h1:m s=some (x,s1)):a0z K1 s1 s2:=λi hi hi2=>by obtain⟨dr,dw,_,_,e3,_,e5,_,e7,_⟩:=hm s x s1 h1;rw[e7 i (λq=>by have:=e5 i q;omega)];exact F i (wL e3 hi) hi2
theorem a0z.left {s1 s2}(F:a0z K s s2)(hc:s1.c<=s2.c):a0z K s s1:=λi hi hi2=>F i hi (wY hi2 hc)
theorem Fr.le {α}{m:M α}(h:Fr m){x}(e:m s=some (x,s')):s.c<=s'.c:=let⟨_,_,_,_,q,_⟩:=h s x s' e;q
def b3E (B0:Nat)(w0:Base)(K:KM)(s':S)(ds:List Deferred)(ex:Ex)(fr':List Value):Exit->Act->World->Prop:=λe a' w'=>∃K',Step B0 w0 K s' w' K'/\VRL K' a'.tmps.toList fr'/\a'.defers=ds/\(match ex with|.normal=>e=.normal|.exit id=>e=.exit id|.ret=>e=.ret)
theorem c9M (hT:TabOk P T){call}(hC:a4O P T B0 w0 call)(hF:∀f vs,Fr (call f vs))(ops){Q}:∀(n k) (fr fr') (s s') (K) (a) (w),k+n=ops.size->a6a P T call ops.toList (ops.toList.drop k) fr s=some (fr',s')->Sim B0 w0 K s.h w->a0z K s s'->VRL K a.tmps.toList fr->GK T K->(∀a' w' K',Step B0 w0 K s' w' K'->VRL K' a'.tmps.toList fr'->a'.defers=a.defers->Q .normal a' w')->wpOps P ops Q (List.range' k n) a w:=by intro n;induction n with|zero=>intro k fr fr' s s' K a w hk h S F hf hg hq;have:ops.toList.drop k=[]:=rY zg;rw[this]at h;obtain⟨rfl,rfl⟩:=y8 h;exact hq a w K (Step.same S rfl) hf rfl|succ n ih=>intro k fr fr' s s' K a w hk h S F hf hg hq;have hlt:k<ops.size:=zy;have hd:ops.toList.drop k=ops[k]::ops.toList.drop (k+1):=xq;rw[hd,b0V]at h;rw[rV];simp only[wpOps,tZ hlt];rw[a9I ops a.tmps hf];cases hw:a1T ops.toList fr ops[k]with|true=>rw[hw]at h;simp only[rQ]at h⊢;left;obtain⟨v,s1,h1,h2⟩:=E8 h;have hle2:=(Fr.runOps P T hF _ _ _).le h2;refine b0G hT hC h1 S (F.left hle2) hf hg λv' w' K' st r=>?_;refine ih (k+1) _ fr' s1 s' K' _ w' zy h2 st.sim (F.right (Fr.stepOp P T hF _ _) h1) (a8y (hf.mono st.le) _ r) (hg.mono st.le) λa2 w2 K2 st2 r2 d2=>?_;exact hq a2 w2 K2 (st.trans st2 hle2) r2 (by rw[d2,a2J])|false=>rw[hw]at h;simp only[vS,uS]at h⊢;refine ih (k+1) _ fr' s s' K _ w zy h S F (a8y hf _ (VR.undef K)) hg λa2 w2 K2 st2 r2 d2=>?_;grind[a2J]
end
end Go.V
end
section
namespace Go.V
open Go.RowKit (Below)
section
variable {P:Program}{T:Tab}{fr fr2:List Value}
theorem b0c (i l):a2D i l=true↔i∈l:=by induction l with|nil=>constructor<;>intro h<;>cases h|cons x l ih=>show(match Nat.beq i x with|true=>true|false=>a2D i l)=true↔_;cases h:Nat.beq i x with|true=>simp_all|false=>have:i≠x:=λe=>zm;simp_all
theorem a6z (l m):Y3 l m=true↔∀i,i∈l->i∉m:=by grind[Y3,R5,b0c]
theorem c6C {t:Nat}{xs}(h:Operand.tmp t∈xs):t∈b1n xs:=by induction xs with|nil=>cases h|cons x xs ih=>show t∈(match x with|.tmp t=>t::b1n xs|_=>b1n xs);grind
theorem c4s {x:Operand}(h:∀t,x=.tmp t->C8 fr t=C8 fr2 t):Y0 T fr x=Y0 T fr2 x:=by cases x with|tmp t=>show some (C8 fr t)=some (C8 fr2 t);rw[h t rfl]|_=>rfl
theorem a3t {xs}(h:∀x∈xs,Y0 T fr x=Y0 T fr2 x):a0P T fr xs=a0P T fr2 xs:=by induction xs<;>first|rfl|grind[a0P]
theorem b7y {o}(h:∀x∈o.operands.toList,Y0 T fr x=Y0 T fr2 x):O6 P T fr o=O6 P T fr2 o:=by
 cases o with
  |move x=>show M.lift _=M.lift _;rw[h x (by simp[Op.operands])]|assign x=>show M.lift _=M.lift _;rw[h x (by simp[Op.operands])]|pick c x y=>show a9U T fr c x y=a9U T fr2 c x y;simp_all[a9U,ev,Op.operands]|alloc t=>rfl|box t x=>show b2h T fr x=b2h T fr2 x;grind[b2h,ev,Op.operands]|build t ps=>show a8z T fr t ps=a8z T fr2 t ps;have:a0P T fr (J7 (·.2) ps.toList)=a0P T fr2 (J7 (·.2) ps.toList):=a3t (λx hx=>h x (by rw[a1z]at hx;grind[Op.operands]));grind[a8z,evs]|buildSlice t len ps=>show a3E T fr t len ps=a3E T fr2 t len ps;have:a0P T fr (J7 (·.2) ps.toList)=a0P T fr2 (J7 (·.2) ps.toList):=a3t (λx hx=>h x (by rw[a1z]at hx;grind[Op.operands]));grind[a3E,evs]|load t x=>show a7V T fr t x=a7V T fr2 t x;grind[a7V,ev,Op.operands]|store t x y=>show a8r T fr t x y=a8r T fr2 t x y;grind[a8r,ev,Op.operands]|nilCheck x=>show a5i T fr x=a5i T fr2 x;grind[a5i,ev,Op.operands]|binOp op t x y yt=>show b2A P T fr op t x y=b2A P T fr2 op t x y;grind[b2A,ev,Op.operands]|unOp op t x=>show b5p P T fr op x=b5p P T fr2 op x;grind[b5p,ev,Op.operands]|convert x y z=>show a4r T fr x y z=a4r T fr2 x y z;grind[a4r,ev,Op.operands]|makeInterface t x=>show a8C T fr t x=a8C T fr2 t x;grind[a8C,ev,Op.operands]|makeFunc fn x y=>show a9R T fr fn x y=a9R T fr2 fn x y;have e1:a0P T fr x.toList=a0P T fr2 x.toList:=a3t (λz hz=>h z yE);have e2:a0P T fr y.toList=a0P T fr2 y.toList:=a3t (λz hz=>h z yE);grind[a9R,evs]|makeMap t r=>cases r with|none=>rfl|some x=>show b1L T fr t (some x)=b1L T fr2 t (some x);grind[b1L,ev,Op.operands]
  |makeSlice t x y=>show a9W T fr t x y=a9W T fr2 t x y;grind[a9W,ev,Op.operands]|slice t x lo hi mx=>show a8s T fr t x lo hi mx=a8s T fr2 t x lo hi mx;have e1:a0P T fr lo.toList=a0P T fr2 lo.toList:=a3t (λz hz=>h z yE);have e2:a0P T fr hi.toList=a0P T fr2 hi.toList:=a3t (λz hz=>h z yE);have e3:a0P T fr mx.toList=a0P T fr2 mx.toList:=a3t (λz hz=>h z yE);simp_all[a8s,evs,ev,Op.operands]|fieldAddr t x f=>show a4t T fr t x f=a4t T fr2 t x f;grind[a4t,ev,Op.operands]|field t x f=>show a6B T fr t x f=a6B T fr2 t x f;grind[a6B,ev,Op.operands]|indexAddr t x i=>show a2K T fr t x i=a2K T fr2 t x i;grind[a2K,ev,Op.operands]|index t x i=>show a8w T fr t x i=a8w T fr2 t x i;grind[a8w,ev,Op.operands]|lookup t x i ok=>show a7f T fr t x i ok=a7f T fr2 t x i ok;grind[a7f,ev,Op.operands]|mapUpdate t m k x=>show a3J T fr t m k x=a3J T fr2 t m k x;simp_all[a3J,ev,Op.operands]|insert t m k x=>show a3J T fr t m k x=a3J T fr2 t m k x;simp_all[a3J,ev,Op.operands]|range t x=>show a8l T fr t x=a8l T fr2 t x;grind[a8l,ev,Op.operands]|next x str=>show a9V T fr x str=a9V T fr2 x str;grind[a9V,ev,Op.operands]|extract x i=>show a6p T fr x i=a6p T fr2 x i;grind[a6p,ev,Op.operands]|_=>rfl
theorem c3r {call o}(h:∀x∈o.operands.toList,Y0 T fr x=Y0 T fr2 x):Z8 P T call fr o=Z8 P T call fr2 o:=by
 unfold Z8;cases hc:b1b o with
  |none=>exact b7y h|some c=>
   have hop:o=.call c:=by cases o<;>first|(cases hc;rfl)|cases hc
   subst hop;have ha:a0P T fr c.args.toList=a0P T fr2 c.args.toList:=a3t (λz hz=>h z (by grind[Op.operands,Call.operands]));show b1c P T call fr c=b1c P T call fr2 c;unfold b1c;cases hcal:c.callee with|value f=>have hf:Y0 T fr f=Y0 T fr2 f:=h f (by simp[Op.operands,Call.operands,hcal]);grind[a5h,ev,evs]|builtin b=>grind[a0L,evs]|invoke r m=>rfl
theorem b4O {call ops o}(h:∀t,t∈a3m ops o->C8 fr t=C8 fr2 t):Z8 P T call fr o.op=Z8 P T call fr2 o.op/\a1T ops fr o=a1T ops fr2 o:=by refine⟨c3r λx hx=>c4s λt ht=>h t ?_,?_⟩;grind[c6C,a3m];grind[a1T,a3m]
end
def a6O {β:Type}(X:Nat->β)(inD inW:Nat->Bool):Nat->β|0=>X 0|k+1=>if inD k&&inW k then X (k+1)else a6O X inD inW k
section
variable {β:Type}{X:Nat->β}{inD inW:Nat->Bool}{n:Nat}
theorem b2g (hX:∀k,k<n->inW k=false->X (k+1)=X k)(i)(h:∀j,j<n->inW j=true->(inD j=true↔j<i))(hi:i<=n):a6O X inD inW n=X i:=by
 have key:∀k,k<=n->a6O X inD inW k=X (min k i):=by intro k;induction k<;>first|rfl|grind[a6O]
 rw[key n (xD _),Nat.min_eq_right hi]
theorem c1F (hX:∀k,k<n->inW k=false->X (k+1)=X k)(h:∀j,j<n->inD j=true):a6O X inD inW n=X n:=b2g hX n (λj hj _=>⟨λ_=>hj,λ_=>h j hj⟩) (xD _)
theorem c1P {inD'}(h:∀j,j<n->inW j=true->inD' j=inD j):a6O X inD' inW n=a6O X inD inW n:=xh
theorem c5q (i)(hi:i<n)(hd:inD i=true)(hw:inW i=true)(h:∀j,i<j->j<n->inD j=true->inW j=false):a6O X inD inW n=X (i+1):=xh
theorem b3L (h:∀j,j<n->inD j=true->inW j=false):a6O X inD inW n=X 0:=xh
end
theorem c9J {ops x y}(h:free2 ops x y=true):(∀i,i∈x.2.2->i∉y.2.1)/\(∀i,i∈x.2.2->i∉y.2.2)/\(∀i,i∈y.2.2->i∉x.2.1)/\(∀i,i∈a2B x.1->i∉a3m ops y.1)/\(∀i,i∈a2B x.1->i∉a2B y.1)/\(∀i,i∈a2B y.1->i∉a3m ops x.1):=by simp_all[free2,a6z]
theorem c2S {ops pj y}:∀(xs) (k),a7q ops pj y xs k=true->∀(i) x,xs[i]?=some x->(k+i)∈pj\/free2 ops x y=true:=by intro xs;induction xs with|nil=>simp_all|cons x0 xs ih=>intro k h i x hx;have h':(match a2D k pj||free2 ops x0 y with|true=>a7q ops pj y xs (k+1)|false=>false)=true:=h;cases hb:a2D k pj||free2 ops x0 y with|false=>rw[hb]at h';cases h'|true=>rw[hb]at h';cases i with|zero=>simp_all[b0c]|succ i=>have:=ih (k+1) h' i x zu;rwa[show k+1+i=k+(i+1) by omega]at this
theorem c9f {f l p}(h:p∈a4C f l):∃e∈l,p∈f e:=by induction l<;>first|rfl|grind[a4C,V7]
theorem c4j {ops}:∀(ys xs) (psl) (n),a2P ops ys xs psl n=true->xs.length=n->psl.length=n->∃ps:Nat->List Nat,(∀i l,psl[i]?=some l->ps i=l)/\∀(j) y,ys[j]?=some y->(∀e∈y.1.after.toList,Region.binds .any e=true->e.on<n+j)/\(∀p,p∈ps (n+j)->∃e∈y.1.after.toList,Region.binds .any e=true/\(p=e.on\/p∈ps e.on))/\(∀(i) x,i<n+j->(xs++ys)[i]?=some x->i∈ps (n+j)\/free2 ops x y=true):=by
 intro ys;induction ys with
  |nil=>intro xs psl n _ _ _;exact⟨λi=>(psl[i]?).getD [],λi l h=>by simp[h],λj y h=>by simp at h⟩|cons y ys ih=>
   intro xs psl n h hx hp;have h':(match a7v n y.1.after.toList&&a7q ops (a4C (a5R psl) y.1.after.toList) y xs 0 with|true=>a2P ops ys (I9 xs [y]) (I9 psl [a4C (a5R psl) y.1.after.toList]) (n+1)|false=>false)=true:=h;cases hb:a7v n y.1.after.toList&&a7q ops (a4C (a5R psl) y.1.after.toList) y xs 0 with
    |false=>rw[hb]at h';cases h'|true=>
     rw[hb]at h';simp only[V7]at h';simp only[wh]at hb;obtain⟨ps,p1,p2⟩:=ih (xs++[y]) (psl++[a4C (a5R psl) y.1.after.toList]) (n+1) h' (by simp[hx]) (by simp[hp]);have hpsn:ps n=a4C (a5R psl) y.1.after.toList:=p1 n _ (by rw[wH zy,hp];simp);refine⟨ps,λi l hi=>p1 i l (by rw[vw (by have:=(xC.1 hi).1;exact this)];exact hi),λj z hz=>?_⟩;cases j with
      |zero=>
       simp at hz;subst hz;refine⟨λe he hbi=>?_,λp hpp=>?_,λi x hi hix=>?_⟩;have:=(R5 _ _).1 hb.1 e he;rw[hbi]at this;simp_all;rw[vZ,hpsn]at hpp;obtain⟨e,he,hpe⟩:=c9f hpp;have hpe':p∈(match Region.binds .any e with|true=>(match a0r psl e.on with|some l=>e.on::l|none=>[])|false=>[]):=hpe;cases hbi:Region.binds .any e<;>first|rfl|grind[a2E]
       rw[vw zy]at hix;have:=c2S xs 0 hb.2 i x hix;rw[wM]at this;rw[vZ,hpsn];exact this|succ j=>have:=p2 j z zu;rw[show n+1+j=n+(j+1) by omega]at this;simp_all
end Go.V
end
section
namespace Go.V
open Go.RowKit (Below)
section
variable {P:Program}{T:Tab}{B0:Nat}{w0:Base}{w:World}{K:KM}{s s':S}{a:Act}{fr:List Value}{v:Value}
structure Trace (P:Program) (T:Tab) (call:Nat→List Value→M Value) (L:List Oper) (feet:List (List Nat×List Nat)) (C:Nat→Nat) (H:Nat→Trie VObj) (FR:Nat→List Value) (k n:Nat):Prop where
 op:∀ i,k≤i→i<n→∃ o ft,L[i]?=some o∧feet[i - k]?=some ft ∧
  ((a1T L (FR i) o=true∧∃ v,Z8 P T call (FR i) o.op ⟨C i,H i, [], []⟩=some (v,⟨C (i+1),H (i+1),ft.1,ft.2⟩)∧FR (i+1)=Q8 (FR i) o v) ∨
   (a1T L (FR i) o=false∧ft=([], [])∧C (i+1)=C i∧H (i+1)=H i∧FR (i+1)=Q8 (FR i) o undef))
theorem c7R {call}(L):∀(m k) (fr fr') (s s') (feet),k+m=L.length->a2t P T call L (L.drop k) fr s=some ((fr',feet),s')->feet.length=m/\∃C H FR,C k=s.c/\H k=s.h/\FR k=fr/\C (k+m)=s'.c/\H (k+m)=s'.h/\FR (k+m)=fr'/\Trace P T call L feet C H FR k (k+m):=by
 intro m;induction m with
  |zero=>intro k fr fr' s s' feet hk h;have:L.drop k=[]:=rY zy;rw[this]at h;have h':M.pure (fr,([]:List (List Nat×List Nat))) s=some ((fr',feet),s'):=h;obtain⟨e,rfl⟩:=y8 h';cases e;exact⟨rfl,λ_=>_,λ_=>_,λ_=>_,rfl,rfl,rfl,rfl,rfl,rfl,⟨λi h1 h2=>zy⟩⟩|succ m ih=>
   intro k fr fr' s s' feet hk h;have hlt:k<L.length:=zy;rw[vV hlt,a7u]at h;cases hw:a1T L fr L[k]with
    |true=>rw[hw]at h;simp only[rQ]at h;obtain⟨x,s1,h1,h2⟩:=E8 h;obtain⟨y,s2,h3,h4⟩:=E8 h2;obtain⟨e,rfl⟩:=y8 h4;obtain⟨y1,y2⟩:=y;cases e;unfold M.foot at h1;cases hst:Z8 P T call fr L[k].op ⟨s.c,s.h,[],[]⟩with|none=>rw[hst]at h1;cases h1|some z=>obtain⟨u,sz⟩:=z;rw[hst]at h1;simp only[V7]at h1;cases h1;obtain⟨q0,C,H,FR,q1,q2,q3,q4,q5,q6,q7⟩:=ih (k+1) _ _ _ _ _ zy h3;dsimp only at q1 q2 q3;refine⟨by simp[q0],λi=>if i=k then s.c else C i,λi=>if i=k then s.h else H i,λi=>if i=k then fr else FR i,zn,zn,zn,?_,?_,?_,⟨λi h1 h2=>?_⟩⟩;grind;grind;grind;by_cases hik:i=k;simp_all;obtain⟨o,ft,t1,t2,t3⟩:=q7.op i zy zy;grind
    |false=>rw[hw]at h;simp only[vS,uS]at h;obtain⟨y,s2,h3,h4⟩:=E8 h;obtain⟨e,rfl⟩:=y8 h4;obtain⟨y1,y2⟩:=y;cases e;obtain⟨q0,C,H,FR,q1,q2,q3,q4,q5,q6,q7⟩:=ih (k+1) _ _ _ _ _ zy h3;refine⟨by simp[q0],λi=>if i=k then s.c else C i,λi=>if i=k then s.h else H i,λi=>if i=k then fr else FR i,zn,zn,zn,?_,?_,?_,⟨λi h1 h2=>?_⟩⟩;grind;grind;grind;by_cases hik:i=k;simp_all;obtain⟨o,ft,t1,t2,t3⟩:=q7.op i zy zy;grind
theorem a5A {fr fr2 t}(h:fr[t]?=fr2[t]?):C8 fr t=C8 fr2 t:=by rw[a4f,a4f,h]
theorem a2H (fr o v t):(Q8 fr o v)[t]?=if t∈a2B o/\t<fr.length then some v else fr[t]?:=by unfold Q8 a2B;cases o.dst with|none=>simp|some d=>simp only[a9N,rz,wN];grind
theorem a4c (fr o v):(Q8 fr o v).length=fr.length:=by grind[Q8,a9N]
theorem d1w {α β}:∀(l:List α) (m:List β) (i:Nat) (x) (y),l[i]?=some x->m[i]?=some y->(a4x l m)[i]?=some (x,y):=by intro l;induction l with|nil=>simp_all|cons a l ih=>intro m i x y h1 h2;cases m with|nil=>simp at h2|cons b m=>show((a,b)::a4x l m)[i]?=_;grind
theorem Sim.congr {h h'}(S:Sim B0 w0 K h w)(e:∀j,h'.get j=h.get j):Sim B0 w0 K h' w:=⟨S.size0,S.below,S.dom',λb g l q=>by rw[e];exact S.dom2 b g l q,S.own,S.apart,S.same,λb g l cs cur ro q1 q2 q3=>S.room b g l cs cur ro q1 q2 (by rw[<-e];exact q3),λb cs cur ro q=>S.gens b cs cur ro (by rw[<-e];exact q),λb cs cur ro g l q1=>S.cells b cs cur ro g l (by rw[<-e];exact q1),λb es q=>S.map b es (by rw[<-e];exact q),λb x p q=>S.siter b x p (by rw[<-e];exact q),λb g l q hnc=>S.gen0 b g l q λcs cur ro e'=>hnc cs cur ro (by rw[e];exact e')⟩
structure Inv (B0:Nat) (w0:Base) (T:Tab) (K0:KM) (cn n len0:Nat) (H:Nat→Trie VObj) (FR:Nat→List Value) (dw dst ps:Nat→List Nat) (ds:List Deferred) (D:Nat→Bool) (a:Act) (w:World) (K:KM) (hD:Trie VObj) (fD:List Value):Prop where
 heap:∀ id,hD.get id=a6O (fun i=>(H i).get id) D (fun i=>decide (id∈dw i)) n
 flen:fD.length=len0
 tmps:∀ t,fD[t]?=a6O (fun i=>(FR i)[t]?) D (fun i=>decide (t∈dst i)) n
 sim:Sim B0 w0 K hD w
 vrl:VRL K a.tmps.toList fD
 gk:GK T K
 le:K0.le K
 far:∀ i g,cn≤i→K i g=K0 i g
 defs:a.defers=ds
 closed:∀ j,j<n→D j=true→∀ p,p∈ps j→D p=true
theorem b4R (hT:TabOk P T)(hM:P.follows .mixedOrders=true){call}(hC:a4O P T B0 w0 call)(hF:∀f vs,Fr (call f vs)){id}(ops){Q}{fr'}{feet}(h:a2t P T call ops.toList ops.toList fr s=some ((fr',feet),s'))(hok:a2P ops.toList (a4x ops.toList feet) [] [] 0=true)(S:Sim B0 w0 K s.h w)(F:a0z K s s')(hf:VRL K a.tmps.toList fr)(hg:GK T K)(hq:∀a' w' K',Step B0 w0 K s' w' K'->VRL K' a'.tmps.toList fr'->a'.defers=a.defers->Q .normal a' w'):(Code.region id ops true).wp P Q a w:=by
 obtain⟨hlen,C,H,FR,c1,c2,c3,c4,c5,c6,tr⟩:=c7R (P:=P) (T:=T) (call:=call) ops.toList ops.size 0 fr fr' s s' feet zn zu;rw[wM]at c4 c5 c6 tr;obtain⟨ps,_,hps⟩:=c4j _ _ _ _ hok rfl rfl;simp only[wM,uu]at hps;let dw:Nat->List Nat:=λi=>((feet[i]?).getD ([],[])).2;let dr:Nat->List Nat:=λi=>((feet[i]?).getD ([],[])).1;let dst:Nat->List Nat:=λi=>((ops.toList[i]?).map a2B).getD [];have hop:∀i,i<ops.size->∃o,ops[i]?=some o/\ops.toList[i]?=some o/\dst i=a2B o/\(a4x ops.toList feet)[i]?=some (o,(dr i,dw i))/\((a1T ops.toList (FR i) o=true/\∃v,Z8 P T call (FR i) o.op ⟨C i,H i,[],[]⟩=some (v,⟨C (i+1),H (i+1),dr i,dw i⟩)/\FR (i+1)=Q8 (FR i) o v)\/(a1T ops.toList (FR i) o=false/\dr i=[]/\dw i=[]/\C (i+1)=C i/\H (i+1)=H i/\FR (i+1)=Q8 (FR i) o undef)):=by intro i hi;obtain⟨o,ft,t1,t2,t3⟩:=tr.op i (vY _) hi;rw[sG]at t2;have e1:dr i=ft.1:=zu;have e2:dw i=ft.2:=zu;refine⟨o,zu,t1,zu,?_,?_⟩;rw[d1w _ _ i o ft t1 t2,e1,e2];grind
 have hfoot:∀i,i<ops.size->C i<=C (i+1)/\(∀x,x∈dw i->x<C (i+1))/\(∀x,C i<=x->x<C (i+1)->x∈dw i)/\(∀x,x∉dw i->(H (i+1)).get x=(H i).get x):=by intro i hi;obtain⟨o,_,_,_,_,t⟩:=hop i hi;rcases t with⟨_,v,a2,_⟩|⟨_,_,b2,b3,b4,_⟩;obtain⟨r0,w0',e1,e2,e3,e4,e5,e6,e7,e8⟩:=Fr.stepOp P T hF _ _ _ _ _ a2;simp_all;simp_all
 have hmono:∀i j,i<=j->j<=ops.size->C i<=C j:=by intro i j hij;induction j<;>grind
 have hclash:∀i j,i<j->j<ops.size->i∈ps j\/((∀x,x∈dw i->x∉dr j)/\(∀x,x∈dw i->x∉dw j)/\(∀x,x∈dw j->x∉dr i)/\(∀o o',ops.toList[i]?=some o->ops.toList[j]?=some o'->(∀t,t∈dst i->t∉a3m ops.toList o')/\(∀t,t∈dst i->t∉dst j)/\(∀t,t∈dst j->t∉a3m ops.toList o))):=by intro i j hij hj;obtain⟨oj,_,j1,j2,j3,_⟩:=hop j hj;obtain⟨oi,_,i1,i2,i3,_⟩:=hop i zy;rcases(hps j _ j3).2.2 i _ hij i3 with q|q;grind;obtain⟨f1,f2,f3,f4,f5,f6⟩:=c9J q;simp_all
 have hXh:∀x k,k<ops.size->decide (x∈dw k)=false->(H (k+1)).get x=(H k).get x:=λx k hk hd=>(hfoot k hk).2.2.2 x zu;have hXt:∀t k,k<ops.size->decide (t∈dst k)=false->(FR (k+1))[t]?=(FR k)[t]?:=by
  intro t k hk hd;obtain⟨o,_,_,d1,_,q⟩:=hop k hk;have hnd:t∉a2B o:=by rw[<-d1];grind
  rcases q with⟨_,v,_,e⟩|⟨_,_,_,_,_,e⟩<;>rw[e,a2H,vg (λq=>hnd q.1)]
 have hlenF:∀k,k<=ops.size->(FR k).length=fr.length:=by intro k;induction k with|zero=>simp_all|succ k ih=>intro hk;obtain⟨o,_,_,_,_,q⟩:=hop k zy;rcases q with⟨_,v,_,e⟩|⟨_,_,_,_,_,e⟩<;>rw[e,a4c,ih zy]
 refine wp_region_any hM ?_;have key:∀(fuel:Nat) (listed:Array Bool) (a1:Act) (w1:World) (U:List Nat),listed.size=ops.size->U.length=fuel->U.Nodup->(∀j,j<ops.size->(listed.getD j false=false↔j∈U))->(∀j,j∈U->j<ops.size)->(∃K1 hD fD,Inv B0 w0 T K s'.c ops.size fr.length H FR dw dst ps a.defers (λj=>listed.getD j false) a1 w1 K1 hD fD)->wpAny P .any ops Q fuel listed a1 w1:=by
  intro fuel;have hend:∀(listed:Array Bool) (a1:Act) (w1:World),(∀j,j<ops.size->listed.getD j false=true)->(∃K1 hD fD,Inv B0 w0 T K s'.c ops.size fr.length H FR dw dst ps a.defers (λj=>listed.getD j false) a1 w1 K1 hD fD)->Q .normal a1 w1:=by
   intro listed a1 w1 hall ⟨K1,hD,fD,I⟩;have e1:∀x,s'.h.get x=hD.get x:=λx=>by rw[I.heap x,c1F (hXh x) hall,c5]
   have e2:fD=fr':=by apply vK;intro t;rw[I.tmps t,c1F (hXt t) hall,c6]
   subst e2;exact hq a1 w1 K1 ⟨I.le,I.far,I.sim.congr e1⟩ I.vrl I.defs
  have hgetD:∀(listed:Array Bool) i,listed.size=ops.size->i<ops.size->listed.getD i true=listed.getD i false:=zm;induction fuel with
   |zero=>intro listed a1 w1 U hsz hU hnd hUU hUn hI;have hall:∀j,j<ops.size->listed.getD j false=true:=zm;refine⟨?_,hend listed a1 w1 hall hI⟩;grind[Region.ready,List.filter_eq_nil_iff]|succ fuel ih=>
    intro listed a1 w1 U hsz hU hnd hUU hUn hI;refine⟨λhr=>?_,λi hi=>?_⟩;exfalso;obtain⟨u,hu,hmin⟩:∃u,u∈U/\∀x,x∈U->u<=x:=by
     have hne:∃x,x∈U:=by cases U<;>first|rfl|grind[List.mem_cons_self]
     obtain⟨x,hx⟩:=hne;have:∀m x,x<=m->x∈U->∃u,u∈U/\∀x,x∈U->u<=x:=by intro m;induction m with|zero=>grind|succ m ihm=>intro x h1 h2;by_cases hh:∃y,y∈U/\y<=m;obtain⟨y,y1,y2⟩:=hh;exact ihm y y2 y1;grind
     exact this x x (xD _) hx
    have hun:=hUn u hu;obtain⟨o,o1,o2,_,o3,_⟩:=hop u hun;have hmem:u∈Region.ready .any ops listed:=by unfold Region.ready;rw[List.mem_filter];refine⟨zu,?_⟩;rw[hgetD listed u hsz hun,(hUU u hun).2 hu,o1];simp only[uy,vE,rO,Option.getD_some];rw[rU];grind
    rw[hr]at hmem;cases hmem;obtain⟨K1,hD,fD,I⟩:=hI;unfold Region.ready at hi;rw[List.mem_filter]at hi;have hin:i<ops.size:=zm;obtain⟨o,o1,o2,o3,o4,o5⟩:=hop i hin;have hi2:=hi.2;rw[hgetD listed i hsz hin,o1]at hi2;simp only[rO,Option.getD_some,wh,si]at hi2;obtain⟨hnl,hed⟩:=hi2;rw[rU]at hed;let D:Nat->Bool:=λj=>listed.getD j false;let D':Nat->Bool:=λj=>(listed.setIfInBounds i true).getD j false;have hD':∀j,D' j=if j=i then true else D j:=by intro j;show(listed.setIfInBounds i true).getD j false=_;by_cases hj:j=i;simp_all;rw[vg hj];show _=listed.getD j false;simp only[sU,qf];rw[vg (λq=>hj q.symm)]
    have hpsD:∀p,p∈ps i->D p=true:=by
     intro p hp;obtain⟨e,he,hb,hpe⟩:=(hps i _ o4).2.1 p hp;have he1:D e.on=true:=by have:=hed e zu;rw[hb]at this;grind
     have hlt:=(hps i _ o4).1 e he hb;rcases hpe with rfl|hpe;exact he1;exact I.closed e.on zy he1 p hpe
    have hside:∀j,j<ops.size->j≠i->(¬(j<i/\j∉ps i))/\(¬(i<j/\D j=true/\i∉ps j))->True:=λ_ _ _ _=>trivial;have hagreeH:∀x,(x∈dr i\/x∈dw i)->∀j,j<ops.size->x∈dw j->(D j=true↔j<i):=by intro x hx j hj hxj;rcases qR j i with hlt|rfl|hgt;grind;grind;refine⟨λq=>?_,λq=>zy⟩;rcases hclash i j hgt hj with q'|⟨q1,q2,q3,_⟩;have:=I.closed j hj q i q';have hf:D i=false:=hnl;rw[show D i=true from this]at hf;cases hf;grind
    have hagreeT:∀t,(t∈a3m ops.toList o\/t∈dst i)->∀j,j<ops.size->t∈dst j->(D j=true↔j<i):=by intro t ht j hj htj;rcases qR j i with hlt|rfl|hgt;grind;grind;refine⟨λq=>?_,λq=>zy⟩;rcases hclash i j hgt hj with q'|⟨_,_,_,q4⟩;have:=I.closed j hj q i q';have hf:D i=false:=hnl;rw[show D i=true from this]at hf;cases hf;grind
    have hH:∀x,(x∈dr i\/x∈dw i)->hD.get x=(H i).get x:=λx hx=>by rw[I.heap x];exact b2g (hXh x) i (λj hj hw=>hagreeH x hx j hj zu) zy
    have hFt:∀t,(t∈a3m ops.toList o\/t∈dst i)->fD[t]?=(FR i)[t]?:=λt ht=>by rw[I.tmps t];exact b2g (hXt t) i (λj hj hw=>hagreeT t ht j hj zu) zy
    obtain⟨hstep,hwant⟩:=b4O (P:=P) (T:=T) (call:=call) (ops:=ops.toList) (o:=o) (fr:=fD) (fr2:=FR i) (λt ht=>a5A (hFt t (Or.inl ht)));have hnext:∀(v:Value) (hD2:Trie VObj) (K2:KM) (v':Value) (w2:World),FR (i+1)=Q8 (FR i) o v->(∀x,x∈dw i->hD2.get x=(H (i+1)).get x)->(∀x,x∉dw i->hD2.get x=hD.get x)->Sim B0 w0 K2 hD2 w2->K1.le K2->(∀x g,s'.c<=x->K2 x g=K1 x g)->VR K2 v' v->wpAny P .any ops Q fuel (listed.setIfInBounds i true) (a1.put o.dst v') w2:=by
     intro v hD2 K2 v' w2 e1 e2 e3 e4 e5 e6 e7;refine ih _ _ _ (U.erase i) (by simp[hsz]) ?_ (hnd.erase i) (λj hj=>?_) (λj hj=>hUn j (List.mem_of_mem_erase hj)) ⟨K2,hD2,Q8 fD o v,⟨λx=>?_,by rw[a4c];exact I.flen,λt=>?_,e4,a8y (I.vrl.mono e5) o e7,I.gk.mono e5,KM.le_trans I.le e5,λx g hx=>(e6 x g hx).trans (I.far x g hx),by rw[a2J];exact I.defs,λj hj hd p hp=>?_⟩⟩;have:i∈U:=(hUU i hin).1 hnl;rw[List.length_erase_of_mem this,hU];rfl;have:=hD' j;show D' j=false↔_;rw[this,hnd.mem_erase_iff];by_cases hji:j=i;grind;grind;show _=a6O _ D' _ _;by_cases hx:x∈dw i;rw[e2 x hx,c5q (n:=ops.size) i hin (by rw[hD' i,vX rfl]) zu (λj h1 h2 h3=>?_)];rw[hD' j,vg zy]at h3;grind;rw[e3 x hx,I.heap x];refine(c1P λj hj hw=>?_).symm;rw[hD' j,vg (λq=>hx zu)];show _=a6O _ D' _ _;by_cases ht:t∈dst i;rw[c5q (n:=ops.size) i hin (by rw[hD' i,vX rfl]) zu (λj h1 h2 h3=>?_)];rw[e1,a2H,a2H,hFt t (Or.inr ht),I.flen,hlenF i zy];rw[hD' j,vg zy]at h3;grind;rw[a2H,vg (λq=>ht (by rw[o3];exact q.1)),I.tmps t];refine(c1P λj hj hw=>?_).symm;rw[hD' j,vg (λq=>ht zu)];have hdj:D' j=true:=hd;show D' p=true;rw[hD' j]at hdj;rw[hD' p];by_cases hji:j=i;subst hji;have:=hpsD p hp;split<;>first|rfl|exact this
     rw[vg hji]at hdj;have:=I.closed j hj hdj p hp;split<;>first|rfl|exact this
    unfold wpOp;rw[o1];dsimp only;rw[a9I ops a1.tmps I.vrl,hwant];rcases o5 with⟨b1,v,b2,b3⟩|⟨b1,b2,b3,b4,b5,b6⟩;rw[b1,vX rfl];left;obtain⟨r0,w0',e1,e2,e3,e4,e5,e6,e7,e8⟩:=Fr.stepOp P T hF _ _ _ _ _ b2;simp only[wR]at e1 e2;subst e1 e2;obtain⟨h2',q1,q2,q3⟩:=e8 hD [] [] (λx hx _=>hH x hx);rw[<-hstep]at q1;have hfree:a0z K1 ⟨C i,hD,[],[]⟩ ⟨C (i+1),h2',dr i++[],dw i++[]⟩:=by intro x hx1 hx2;show hD.get x=none;have hx1:C i<=x:=hx1;have hx2:x<C (i+1):=hx2;rw[I.heap x,b3L (λj hj hd=>?_)];show(H 0).get x=none;rw[c2];have h0:=hmono 0 i (vY _) zy;have hn:=hmono (i+1) ops.size zy (xD _);exact F x (by rw[<-c1];omega) (by rw[<-c4];omega);grind
    refine b0G hT hC q1 I.sim hfree I.vrl I.gk λv' w2 K2 st r=>?_;refine hnext v h2' K2 v' w2 b3 q2 q3 st.sim st.le (λx g hx=>st.far x g ?_) r;have hn:=hmono (i+1) ops.size zy (xD _);grind;rw[b1];simp only[vS,uS];exact hnext undef hD K1 undef w1 b6 (λx hx=>by rw[b3]at hx;cases hx) (λ_ _=>rfl) I.sim (KM.le_refl _) (λ_ _ _=>rfl) (VR.undef K1)
 refine key ops.size (Array.replicate ops.size false) a _ (List.range ops.size) zn zn List.nodup_range (λj hj=>by simp[hj]) (λj hj=>zu) ?_;refine⟨K,s.h,fr,⟨λx=>?_,rfl,λt=>?_,a5Y S (Grew.drew w),hf,hg,KM.le_refl K,λ_ _ _=>rfl,rfl,λj hj hd=>?_⟩⟩;rw[b3L (λj hj hd=>by simp[hj]at hd),c2];rw[b3L (λj hj hd=>by simp[hj]at hd),c3];simp_all
end
end Go.V
end
noncomputable section
namespace Go.V
theorem c4W {α}(l):∀k:List Value->α,c2Y l k=k l:=by induction l with|nil=>intro k;rfl|cons x l ih=>intro k;show a7F x (λx=>c2Y l λl=>k (x::l))=_;rw[a8m,ih]
theorem a4q:a2y=o9:=by
 unfold a2y o9;have h1:(λ(β:Type) (m:M Value) (k:Value->M β)=>M.bind m λv=>a7F v k)=λ_ m k=>M.bind m k:=by funext β m k;simp_all[a8m]
 have h2:(λ(β:Type) (m:M CR) (kn kp:Value->M β)=>M.bind m λr=>a1w r (λv=>a7F v kn) kp)=λ_ m kn kp=>M.bind m λr=>a1w r kn kp:=by funext β m kn kp;simp_all[a8m]
 have h3:c6R=Q5:=by funext body n;induction n<;>first|rfl|grind[c6R,Q5,c4W]
 have h4:(λ(β:Type) (m:M (Xc×List Value)) (k:Xc->List Value->M β)=>M.bind m λr=>c2Y r.2 λxs=>k r.1 xs)=λ_ m k=>M.bind m λr=>k r.1 r.2:=by funext β m k;grind[c4W]
 rw[h1,h2,h3,h4]
def Le {α:Type}(m m':M α):Prop:=∀s r,m s=some r->m' s=some r
theorem Le.refl {α}(m:M α):Le m m:=λ_ _ h=>h
theorem Le.trans {α}{a b c:M α}(h:Le a b)(k:Le b c):Le a c:=λs r e=>k s r (h s r e)
theorem Le.fail {α}(m:M α):Le M.fail m:=λ_ _ h=>zZ
theorem a1m {α β m}{f:α->M β}{s s1 a r}(h:m s=some (a,s1))(h':f a s1=some r):M.bind m f s=some r:=by grind[M.bind]
theorem Le.bind {α β m m'}{f f':α->M β}(h:Le m m')(k:∀a,Le (f a) (f' a)):Le (M.bind m f) (M.bind m' f'):=λs r e=>by obtain⟨a,s1,h1,h2⟩:=E8 (s2:=r.2) (b:=r.1) e;exact a1m (h s _ h1) (k a s1 _ h2)
theorem Le.obind {α β o}{f f':α->M β}(k:∀a,o=some a->Le (f a) (f' a)):Le (M.obind o f) (M.obind o f'):=by cases o with|none=>exact Le.fail _|some a=>exact k a rfl
theorem Le.obind_bind {α β γ o}{f:α->M γ}{f':α->M β}{g}(k:∀a,o=some a->Le (f a) (M.bind (f' a) g)):Le (M.obind o f) (M.bind (M.obind o f') g):=by cases o with|none=>exact Le.fail _|some a=>exact k a rfl
theorem Le.guard {α b}{m m':M α}(h:b=true->Le m m'):Le (M.guard b m) m':=by cases b with|true=>exact h rfl|false=>exact Le.fail _
theorem a1Z {α β γ}(m:M α)(f)(g:β->M γ):M.bind (M.bind m f) g=M.bind m λa=>M.bind (f a) g:=by funext s;grind[M.bind]
theorem e7i {α β}(a)(f:α->M β):M.bind (M.pure a) f=f a:=wm rfl rfl
theorem a9y {β γ}(x a b c d)(g:β->M γ):M.bind (X3 x a b c d) g=X3 x (M.bind a g) (λi=>M.bind (b i) g) (M.bind c g) (λv=>M.bind (d v) g):=by cases x<;>rfl
theorem a7j {β x}{a a':M β}{b b' c c' d d'}(h1:x=.normal->Le a a')(h2:∀i,x=.exit i->Le (b i) (b' i))(h3:x=.ret->Le c c')(h4:∀v,x=.pan v->Le (d v) (d' v)):Le (X3 x a b c d) (X3 x a' b' c' d'):=by cases x with|normal=>exact h1 rfl|exit i=>exact h2 i rfl|ret=>exact h3 rfl|pan v=>exact h4 v rfl
theorem d0v {β γ r}{kn kp:Value->M γ}{kn' kp':Value->M β}{g}(h1:∀v,Le (kn v) (M.bind (kn' v) g))(h2:∀v,Le (kp v) (M.bind (kp' v) g)):Le (a1w r kn kp) (M.bind (a1w r kn' kp') g):=by cases r with|ret v=>exact h1 v|pan v=>exact h2 v
theorem b8q (fr W):P5 fr W=W.map (C8 fr):=a1z _ _
theorem b9h (v vs W):∀(i) (fr),a5B (v::vs) W (Nat.succ i) fr=a5B vs W i fr:=by induction W with|nil=>intro i fr;rfl|cons t W ih=>intro i fr;exact ih (Nat.succ i) _
theorem b4X (t W v vs fr):M6 (t::W) (v::vs) fr=M6 W vs (a4P fr t v):=b9h v vs W 0 _
theorem b6N (W):∀(fr' fr),fr'.length=fr.length->∀t,(M6 W (P5 fr' W) fr)[t]?=if t∈W then fr'[t]? else fr[t]?:=by induction W with|nil=>grind[M6,a5B]|cons u W ih=>intro fr' fr hl t;have e:P5 fr' (u::W)=C8 fr' u::P5 fr' W:=rfl;rw[e,b4X,ih fr' (a4P fr u (C8 fr' u)) (by rw[a9N];grind) t];by_cases h1:t∈W;rw[vX h1,vX (vW _ h1)];rw[vg h1,a9N,rz];by_cases h2:u=t;subst h2;rw[vX rfl,vX vC,a4f];grind;grind
theorem a3d {W fr' fr}(hl:fr'.length=fr.length)(h:∀t,t∉W->fr'[t]?=fr[t]?):M6 W (P5 fr' W) fr=fr':=by apply vK;simp_all[b6N]
theorem b7C (vs W):∀(i) (fr),(a5B vs W i fr).length=fr.length:=by induction W with|nil=>intro i fr;rfl|cons u W ih=>intro i fr;show(a5B vs W (Nat.succ i) (a4P fr u (C8 vs i))).length=_;rw[ih,a9N];simp
theorem b9d (W vs fr):(M6 W vs fr).length=fr.length:=b7C vs W 0 fr
theorem a7L {α b}{m m':M α}(h:Le m m'):Le (bcase b m M.fail) m':=by cases b with|true=>exact h|false=>exact Le.fail _
section
variable {p:Program}{T:Tab}{call:I5}{pn:Bool}
theorem d2r {β γ fr o}{kn kp:Value->M γ}{kn' kp':Value->M β}{g}(h1:∀v,Le (kn v) (M.bind (kn' v) g))(h2:∀v,Le (kp v) (M.bind (kp' v) g)):Le (a3T p T o9 call fr o kn kp) (M.bind (a3T p T o9 call fr o kn' kp') g):=by
 have hs:∀m:M Value,Le (o9.bv γ m kn) (M.bind (o9.bv β m kn') g):=λm=>by show Le (M.bind m kn) (M.bind (M.bind m kn') g);rw[a1Z];exact Le.bind (Le.refl _) h1
 unfold a3T;split;grind[Le.obind_bind];grind[Le.obind_bind];split;refine Le.obind_bind λga _=>?_;show Le (M.bind (call ga.1 ga.2) λr=>a1w r kn kp) (M.bind (M.bind (call ga.1 ga.2) λr=>a1w r kn' kp') g);rw[a1Z];grind[Le.bind,Le.refl,d0v];exact hs _;exact Le.fail _;refine Le.obind_bind λv _=>?_;cases hb:a5e v with|true=>exact h2 v|false=>exact Le.fail _
 grind
theorem a4T (ops:List Oper)(o:Oper)(os:List Oper)(fr:List Value):a4V p T call ops (o::os) fr=match a1T ops fr o with|true=>a3T p T o9 call fr o.op (λv=>a4V p T call ops os (Q8 fr o v)) (λv=>M.pure (.pan v,fr))|false=>a4V p T call ops os (Q8 fr o undef):=rfl
theorem d0D (cb){β}(o os fr)(k:Xc->List Value->M β):a0x p T cb pn call (o::os) fr k=a3T p T cb call fr o.op (λv=>a0x p T cb pn call os (Q8 fr o v) k) (λv=>bcase pn (k (.pan v) fr) M.fail):=rfl
theorem c5D {β}(ops g)(hw:∀(fr) (o),o.guard=g->(∀jb,g=some jb->∀t,a4k ops jb.1=some t->a1O jb.2 (C8 fr t)=true)->a1T ops fr o=true):∀(os),(∀o∈os,o.guard=g)->(∀jb,g=some jb->∃t,a4k ops jb.1=some t/\t∉O3 os)->∀(fr),(∀jb,g=some jb->∀t,a4k ops jb.1=some t->a1O jb.2 (C8 fr t)=true)->∀(k k':Xc->List Value->M β),(∀x fr,Le (k x fr) (k' x fr))->Le (a0x p T o9 pn call os fr k) (M.bind (a4V p T call ops os fr) λr=>k' r.1 r.2):=by
 intro os;induction os with
  |nil=>intro _ _ fr _ k k' hk;exact hk _ _|cons o os ih=>
   intro ho hd fr hb k k' hk;rw[d0D,a4T,hw fr o (ho o vC) hb];refine d2r (λv=>?_) (λv=>a7L (hk _ _));refine ih (λx hx=>ho x (vW _ hx)) (λjb e=>?_) _ (λjb e t ht=>?_) k k' hk;grind[O3];obtain⟨t',h1,h2⟩:=hd jb e;rw[ht]at h1;cases h1;have h2':t∉(match o.dst with|some u=>u::O3 os|none=>O3 os):=h2;have e2:C8 (Q8 fr o v) t=C8 fr t:=by apply a5A;rw[a2H];rw[vg];grind[a2B]
   rw[e2];simp_all
theorem d1k {ops fr o}(h:o.guard=none):a1T ops fr o=true:=by grind[a1T]
theorem b8L {ops fr o jb}{t:Nat}(h:o.guard=some jb)(ht:a4k ops jb.1=some t):a1T ops fr o=a1O jb.2 (C8 fr t):=by grind[a1T]
theorem c3W (ops r):∀(l) (fr),a4V p T call ops (l++r) fr=M.bind (a4V p T call ops l fr) λx=>X3 x.1 (a4V p T call ops r x.2) (λid=>M.pure (.exit id,x.2)) (M.pure (.ret,x.2)) (λv=>M.pure (.pan v,x.2)):=by
 intro l;induction l with
  |nil=>intro fr;rfl|cons o l ih=>
   intro fr;rw[sQ,a4T,a4T];cases a1T ops fr o with
    |false=>exact ih _|true=>
     have step:∀(kn kp kn' kp':Value->M (Xc×List Value)) (g:(Xc×List Value)->M (Xc×List Value)),(∀v,kn v=M.bind (kn' v) g)->(∀v,kp v=M.bind (kp' v) g)->a3T p T o9 call fr o.op kn kp=M.bind (a3T p T o9 call fr o.op kn' kp') g:=by
      intro kn kp kn' kp' g h1 h2;have hs:∀m:M Value,o9.bv (Xc×List Value) m kn=M.bind (o9.bv (Xc×List Value) m kn') g:=λm=>by show M.bind m kn=M.bind (M.bind m kn') g;rw[a1Z];congr 1;funext v;exact h1 v
      have ho:∀x:Option Value,M.obind x kn=M.bind (M.obind x kn') g:=λx=>by cases x with|none=>rfl|some v=>exact h1 v
      unfold a3T;split;exact ho _;exact ho _;split;rename_i f _;cases a4Q T fr f _ with|none=>rfl|some ga=>show M.bind (call ga.1 ga.2) (λr=>a1w r kn kp)=M.bind (M.bind (call ga.1 ga.2) λr=>a1w r kn' kp') g;rw[a1Z];congr 1;funext r;cases r with|ret v=>exact h1 v|pan v=>exact h2 v
      exact hs _;rfl;rename_i x _;cases Y0 T fr x with|none=>rfl|some v=>show M.guard (a5e v) (kp v)=M.bind (M.guard (a5e v) (kp' v)) g;cases a5e v with|true=>exact h2 v|false=>rfl
      grind
     exact step _ _ _ _ _ (λv=>ih _) (λv=>rfl)
theorem c4t {β fr o kn kp s s' b}{Q:β->Prop}(h:a3T p T o9 call fr o kn kp s=some (b,s'))(h1:∀v s,kn v s=some (b,s')->Q b)(h2:∀v s,kp v s=some (b,s')->Q b):Q b:=by
 have hs:∀m:M Value,o9.bv β m kn s=some (b,s')->Q b:=λm q=>by obtain⟨v,s1,_,q2⟩:=E8 (f:=kn) q;grind
 have ho:∀x:Option Value,M.obind x kn s=some (b,s')->Q b:=λx q=>by obtain⟨v,_,q2⟩:=H9 q;grind
 cases o with
  |move x=>exact ho _ h|assign x=>exact ho _ h|call c=>
   obtain⟨cal,args,ts⟩:=c;cases cal with
    |value f=>obtain⟨ga,_,q⟩:=H9 h;obtain⟨r,s1,_,q2⟩:=E8 (f:=λr=>a1w r kn kp) q;cases r with|ret v=>exact h1 v s1 q2|pan v=>exact h2 v s1 q2
    |builtin b=>exact hs _ h|invoke r m=>cases h
  |panic x=>obtain⟨v,_,q⟩:=H9 h;grind[I4]|_=>exact hs _ h
theorem a7a {o os t}:t∈O3 (o::os)↔t∈a2B o\/t∈O3 os:=by grind[O3,a2B]
theorem b7n (ops):∀(os) (fr) (s s') (x),a4V p T call ops os fr s=some (x,s')->x.2.length=fr.length/\∀t,t∉O3 os->x.2[t]?=fr[t]?:=by
 intro os;induction os with
  |nil=>intro fr s s' x h;obtain⟨rfl,rfl⟩:=y8 h;simp_all|cons o os ih=>
   intro fr s s' x h;have next:∀v s1,a4V p T call ops os (Q8 fr o v) s1=some (x,s')->x.2.length=fr.length/\∀t,t∉O3 (o::os)->x.2[t]?=fr[t]?:=by intro v s1 q;obtain⟨h1,h2⟩:=ih _ _ _ _ q;simp_all[a4c,a7a,a2H]
   rw[a4T]at h;cases hw:a1T ops fr o with|false=>rw[hw]at h;grind|true=>rw[hw]at h;refine c4t (Q:=λb=>b.2.length=fr.length/\∀t,t∉O3 (o::os)->b.2[t]?=fr[t]?) h next (λv s1 q=>?_);obtain⟨rfl,rfl⟩:=y8 q;simp_all
theorem c9R (ops jb)(t:Nat)(ht:a4k ops jb.1=some t):∀(os),(∀o∈os,o.guard=some jb)->t∉O3 os->∀(fr),a1O jb.2 (C8 fr t)=false->a4V p T call ops os fr=M.pure (.normal,M6 (O3 os) (a0t (F9 (O3 os))) fr):=by
 intro os;induction os with
  |nil=>intro _ _ fr _;rfl|cons o os ih=>
   intro ho hd fr hb;rw[a4T,b8L (ho o vC) ht,hb];rw[a7a,not_or]at hd;have e2:C8 (Q8 fr o undef) t=C8 fr t:=by apply a5A;rw[a2H,vg (λq=>hd.1 q.1)]
   simp only;rw[ih (λx hx=>ho x (vW _ hx)) hd.2 _ (by rw[e2];exact hb)];congr 2;show M6 (O3 os) (a0t (F9 (O3 os))) (Q8 fr o undef)=M6 (match o.dst with|some u=>u::O3 os|none=>O3 os) (a0t (F9 (match o.dst with|some u=>u::O3 os|none=>O3 os))) fr;unfold Q8;cases o.dst<;>simp_all[b4X,a0t,F9]
theorem d1Y {a b}(h:a4l a b=true):a=b:=by
 cases a with
  |none=>cases b with|none=>rfl|some b=>cases h
  |some a=>cases b with|none=>cases h|some b=>obtain⟨a1,a2⟩:=a;obtain⟨b1,b2⟩:=b;have h:(Nat.beq a1 b1&&(a2==b2))=true:=h;simp_all
theorem c4y (os):(a1U os).flatMap (·.2)=os/\∀g∈a1U os,∀o∈g.2,o.guard=g.1:=by induction os with|nil=>exact⟨rfl,λg hg=>by cases hg⟩|cons o os ih=>have e:a1U (o::os)=(match a1U os with|[]=>[(o.guard,[o])]|g::gs=>match a4l o.guard g.1 with|true=>(g.1,o::g.2)::gs|false=>(o.guard,[o])::g::gs):=rfl;rw[e];cases hg:a1U os with|nil=>rw[hg]at ih;simp_all|cons g gs=>rw[hg]at ih;simp only;cases hs:a4l o.guard g.1 with|true=>refine⟨by rw[<-ih.1];rfl,λg' h x hx=>?_⟩;simp only[vG]at h;rcases h with rfl|h;simp only[vG]at hx;rcases hx with rfl|hx;exact d1Y hs;simp_all;grind|false=>refine⟨by rw[<-ih.1];rfl,λg' h x hx=>?_⟩;grind
theorem d2Y {β}(ops):∀(gs),(∀g∈gs,∀o∈g.2,o.guard=g.1)->∀(fr) (k k':Xc->List Value->M β),(∀x fr,Le (k x fr) (k' x fr))->Le (a7Y p T o9 pn call ops gs fr k) (M.bind (a4V p T call ops (gs.flatMap (·.2)) fr) λr=>k' r.1 r.2):=by
 intro gs;induction gs with
  |nil=>intro _ fr k k' hk;exact hk _ _|cons g gs ih=>
   intro hg fr k k' hk;obtain⟨gd,l⟩:=g;have hl:=hg _ vC;have ih':=λfr=>ih (λg h=>hg g (vW _ h)) fr k k' hk;show Le (match gd with|none=>a0x p T o9 pn call l fr λex fr'=>X3 ex (a7Y p T o9 pn call ops gs fr' k) (λ_=>M.fail) M.fail λv=>k (.pan v) fr'|some jb=>M.obind (a4k ops jb.1) λt=>M.guard (!(a2D t (O3 l)))<|o9.bj β (bcase (a1O jb.2 (C8 fr t)) (a0x p T o9 pn call l fr λex fr'=>M.pure (ex,P5 fr' (O3 l))) (M.pure (.normal,a0t (F9 (O3 l))))) λex vs=>X3 ex (a7Y p T o9 pn call ops gs (M6 (O3 l) vs fr) k) (λ_=>M.fail) M.fail λv=>bcase pn (k (.pan v) (M6 (O3 l) vs fr)) M.fail) (M.bind (a4V p T call ops (l++gs.flatMap (·.2)) fr) λr=>k' r.1 r.2);rw[c3W,a1Z];cases gd with
    |none=>refine Le.trans (c5D ops none (λfr o h _=>d1k h) l hl (λjb e=>zi) fr (λjb e=>zi) _ (λx fr'=>X3 x (M.bind (a4V p T call ops (gs.flatMap (·.2)) fr') λr=>k' r.1 r.2) (λ_=>M.fail) M.fail λv=>k' (.pan v) fr') (λx fr'=>?_)) ?_;grind[a7j,Le.fail];refine Le.bind (Le.refl _) λr=>?_;rw[a9y];exact a7j (λ_=>Le.refl _) (λ_ _=>Le.fail _) (λ_=>Le.fail _) (λv _=>Le.refl _)|some jb=>
     dsimp only;cases ht:a4k ops jb.1 with
      |none=>exact Le.fail _|some t=>
       refine Le.guard λhm=>?_;have hm':t∉O3 l:=λq=>by rw[(b0c _ _).2 q]at hm;cases hm
       show Le (M.bind (bcase (a1O jb.2 (C8 fr t)) (a0x p T o9 pn call l fr λex fr'=>M.pure (ex,P5 fr' (O3 l))) (M.pure (.normal,a0t (F9 (O3 l))))) λr=>X3 r.1 (a7Y p T o9 pn call ops gs (M6 (O3 l) r.2 fr) k) (λ_=>M.fail) M.fail λv=>bcase pn (k (.pan v) (M6 (O3 l) r.2 fr)) M.fail) _;cases hb:a1O jb.2 (C8 fr t)with|false=>rw[c9R ops jb t ht l hl hm' fr hb];exact ih' (M6 (O3 l) (a0t (F9 (O3 l))) fr)|true=>intro s r e;obtain⟨x,s1,e1,e2⟩:=E8 (s2:=r.2) (b:=r.1) e;have h1:=c5D (β:=Xc×List Value) ops (some jb) (λfr o h hq=>by rw[b8L h ht];simp_all) l hl (λjb' e=>zm) fr (λjb' e t' ht'=>zm) (λex fr'=>M.pure (ex,P5 fr' (O3 l))) (λex fr'=>M.pure (ex,P5 fr' (O3 l))) (λ_ _=>Le.refl _) s _ e1;obtain⟨y,s2,f1,f2⟩:=E8 h1;obtain⟨rfl,rfl⟩:=y8 f2;obtain⟨g1,g2⟩:=b7n ops l fr s _ y f1;refine a1m f1 ?_;simp only[]at e2;rw[a3d g1 g2]at e2;rw[a9y];refine a7j (λ_=>ih' _) (λ_ _=>Le.fail _) (λ_=>Le.fail _) (λv _=>a7L (hk _ _)) _ _ e2
end
end Go.V
end
noncomputable section
namespace Go.V
section
variable {p:Program}{T:Tab}{call:I5}{pn:Bool}
theorem c3n {ops os o}(h:o∈os){t}(ht:t∈a3m ops o):t∈a4u ops os:=by induction os with|nil=>cases h|cons x os ih=>show t∈I9 (a3m ops x) (a4u ops os);rw[V7,vN];grind
theorem d0s {l t}(h:t∈l):t∈a2L l:=by induction l with|nil=>cases h|cons i l ih=>show t∈c1I i (a2L l);unfold c1I;simp only[vG]at h;cases hm:a2D i (a2L l)with|true=>rcases h with rfl|h;grind[b0c];grind|false=>grind
theorem a9D {c}(ops):∀(os) (fr) (s s') (z),a2t p T c ops os fr s=some (z,s')->z.1.length=fr.length/\∀t,t∉O3 os->z.1[t]?=fr[t]?:=by
 intro os;induction os with
  |nil=>intro fr s s' z h;obtain⟨rfl,rfl⟩:=y8 h;simp_all|cons o os ih=>
   intro fr s s' z h;have key:∀(v:Value) (s1 s2:S) (y:List Value×List (List Nat×List Nat)),a2t p T c ops os (Q8 fr o v) s1=some (y,s2)->y.1.length=fr.length/\∀t,t∉O3 (o::os)->y.1[t]?=fr[t]?:=by intro v s1 s2 y hy;obtain⟨h1,h2⟩:=ih _ _ _ _ hy;simp_all[a4c,a7a,a2H]
   rw[a7u]at h;split at h;obtain⟨x,s1,_,h2⟩:=E8 h;obtain⟨y,s2,h3,h4⟩:=E8 h2;obtain⟨rfl,rfl⟩:=y8 h4;grind;obtain⟨y,s2,h3,h4⟩:=E8 h;obtain⟨rfl,rfl⟩:=y8 h4;grind
theorem c7v {c}(ops)(A:Nat->Prop):∀(os),(∀o∈os,∀t∈a3m ops o,A t)->∀(fr fr2),fr.length=fr2.length->(∀t,A t->C8 fr t=C8 fr2 t)->∀s y s',a2t p T c ops os fr s=some (y,s')->∃fr',a2t p T c ops os fr2 s=some ((fr',y.2),s')/\∀t,A t\/t∈O3 os->C8 y.1 t=C8 fr' t:=by
 intro os;induction os with
  |nil=>intro _ fr fr2 hl hA s y s' h;obtain⟨rfl,rfl⟩:=y8 h;exact⟨fr2,rfl,λt ht=>ht.elim (hA t) (λq=>zb)⟩|cons o os ih=>
   intro ho fr fr2 hl hA s y s' h;obtain⟨c1,c2⟩:=b4O (P:=p) (T:=T) (call:=c) (ops:=ops) (o:=o) (fr:=fr) (fr2:=fr2) (λt ht=>hA t (ho o vC t ht));have key:∀(v:Value) (s1 s2:S) (z:List Value×List (List Nat×List Nat)),a2t p T c ops os (Q8 fr o v) s1=some (z,s2)->∃fr',a2t p T c ops os (Q8 fr2 o v) s1=some ((fr',z.2),s2)/\∀t,A t\/t∈O3 (o::os)->C8 z.1 t=C8 fr' t:=by
    intro v s1 s2 z hz;have hput:∀t,A t\/t∈a2B o->C8 (Q8 fr o v) t=C8 (Q8 fr2 o v) t:=by intro t ht;rw[a4f,a4f,a2H,a2H,hl];by_cases hc:t∈a2B o/\t<fr2.length;rw[vX hc,vX hc];rw[vg hc,vg hc];grind[a4f]
    obtain⟨fr',e1,e4⟩:=ih (λx hx=>ho x (vW _ hx)) (Q8 fr o v) (Q8 fr2 o v) (by rw[a4c,a4c,hl]) (λt ht=>hput t (Or.inl ht)) s1 z s2 hz;refine⟨fr',e1,λt ht=>?_⟩;by_cases hc:A t\/t∈O3 os;grind;rw[not_or]at hc;have ht:t∈a2B o:=by grind[a7a]
    rw[a5A ((a9D ops os _ _ _ _ hz).2 t hc.2),a5A ((a9D ops os _ _ _ _ e1).2 t hc.2)];simp_all
   rw[a7u]at h;rw[a7u,<-c2,<-c1];cases hw:a1T ops fr o with|true=>rw[hw]at h;simp only[rQ]at h⊢;obtain⟨x,s1,h1,h2⟩:=E8 h;obtain⟨z,s2,h3,h4⟩:=E8 h2;obtain⟨rfl,rfl⟩:=y8 h4;obtain⟨fr',e1,e2⟩:=key _ _ _ z h3;exact⟨fr',a1m h1 (a1m e1 rfl),e2⟩|false=>rw[hw]at h;simp only[vS,uS]at h⊢;obtain⟨z,s2,h3,h4⟩:=E8 h;obtain⟨rfl,rfl⟩:=y8 h4;obtain⟨fr',e1,e2⟩:=key _ _ _ z h3;exact⟨fr',a1m e1 rfl,e2⟩
theorem b6J (n):(a0t n).length=n:=by induction n<;>first|rfl|grind[a0t]
theorem c5N {β}(ops draw fr)(k k':Xc->List Value->M β)(hk:∀x fr,Le (k x fr) (k' x fr)):Le (b7X p T o9 pn call ops draw fr k) (M.bind (b4h p T call ops draw fr) λr=>k' r.1 r.2):=by
 cases draw with
  |false=>obtain⟨h1,h2⟩:=c4y ops;have:=d2Y (p:=p) (T:=T) (call:=call) (pn:=pn) (β:=β) ops (a1U ops) h2 fr k k' hk;rw[h1]at this;exact this|true=>
   intro s r h;have h:M.bind (b7j p T call ops (F9 fr) (a2L (a4u ops ops)) (P5 fr (a2L (a4u ops ops))) (O3 ops)) (λx=>k .normal (M6 (O3 ops) x.2 fr)) s=some r:=h;obtain⟨x,s1,h1,h2⟩:=E8 (s2:=r.2) (b:=r.1) h;unfold b7j at h1;obtain⟨y,s2,h3,h4⟩:=E8 h1;obtain⟨h5,h6⟩:=I4 h4;obtain⟨rfl,rfl⟩:=y8 h6;have hlen:(M6 (a2L (a4u ops ops)) (P5 fr (a2L (a4u ops ops))) (a0t (F9 fr))).length=fr.length:=by rw[b9d,b6J,J2]
   obtain⟨fr',e1,e2⟩:=c7v (p:=p) (T:=T) ops (λt=>t∈a2L (a4u ops ops)) ops (λo ho t ht=>d0s (c3n ho ht)) _ fr hlen (λt ht=>by apply a5A;rw[b6N _ _ _ (by rw[b6J,J2]),vX ht]) s y s1 h3;show M.bind (M.bind (a2t p T (a1M call) ops ops fr) λy=>M.guard (a2P ops (a4x ops y.2) [] [] 0)<|M.pure (Xc.normal,y.1)) (λr=>k' r.1 r.2) s=some r;refine a1m (a:=(Xc.normal,fr')) (s1:=s1) (a1m e1 ?_) ?_;simp_all[M.guard,M.pure];have e3:M6 (O3 ops) (P5 y.1 (O3 ops)) fr=fr':=by
    have e4:P5 y.1 (O3 ops)=P5 fr' (O3 ops):=by rw[b8q,b8q];simp_all
    obtain⟨f1,f2⟩:=a9D ops ops fr s s1 _ e1;rw[e4];exact a3d f1 f2
   have h2:k .normal (M6 (O3 ops) (P5 y.1 (O3 ops)) fr) s1=some r:=h2;rw[e3]at h2;exact hk _ _ _ _ h2
theorem b9c (ops draw fr s s' x)(h:b4h p T call ops draw fr s=some (x,s')):x.2.length=fr.length/\∀t,t∉O3 ops->x.2[t]?=fr[t]?:=by cases draw with|false=>exact b7n ops ops fr s s' x h|true=>have h:M.bind (a2t p T (a1M call) ops ops fr) (λy=>M.guard (a2P ops (a4x ops y.2) [] [] 0)<|M.pure (Xc.normal,y.1)) s=some (x,s'):=h;obtain⟨y,s2,h3,h4⟩:=E8 h;obtain⟨_,h6⟩:=I4 h4;obtain⟨rfl,rfl⟩:=y8 h6;grind[a9D]
theorem b8U {β v}{x y:M β}{s r}(h:a5P v x y s=some r):(v=.bool true/\x s=some r)\/(v=.bool false/\y s=some r):=by
 cases v with
  |bool b=>cases b with|true=>exact Or.inl ⟨rfl,h⟩|false=>exact Or.inr ⟨rfl,h⟩
  |_=>cases h
theorem Z6 {σ}(body:σ->M (Xc×σ))(n x):Q5 body (n+1) x=M.bind (body x) λr=>X3 r.1 (Q5 body n r.2) (λid=>M.pure (.exit id,r.2)) (M.pure (.ret,r.2)) (λv=>M.pure (.pan v,r.2)):=rfl
theorem b4V (N):∀(c) (fr) (s s') (x),a0w p T N call c fr s=some (x,s')->x.2.length=fr.length/\∀t,t∉a0I c->x.2[t]?=fr[t]?:=by
 intro c;induction c with
  |skip=>intro fr s s' x h;obtain⟨rfl,rfl⟩:=y8 h;simp_all|region id ops draw=>intro fr s s' x h;exact b9c _ _ _ _ _ _ h|seq a b iha ihb=>intro fr s s' x h;have h:M.bind (a0w p T N call a fr) (λr=>X3 r.1 (a0w p T N call b r.2) (λid=>M.pure (.exit id,r.2)) (M.pure (.ret,r.2)) (λv=>M.pure (.pan v,r.2))) s=some (x,s'):=h;obtain⟨r,s1,h1,h2⟩:=E8 h;obtain⟨f1,f2⟩:=iha _ _ _ _ h1;have hw:∀t,t∉a0I (.seq a b)->t∉a0I a/\t∉a0I b:=λt ht=>xU;obtain⟨rx,rf⟩:=r;cases rx with|normal=>obtain⟨g1,g2⟩:=ihb _ _ _ _ h2;simp_all|_=>obtain⟨rfl,rfl⟩:=y8 h2;exact⟨f1,λt ht=>f2 t (hw t ht).1⟩
  |cond o a b iha ihb=>intro fr s s' x h;have hw:∀t,t∉a0I (.cond o a b)->t∉a0I a/\t∉a0I b:=λt ht=>xU;obtain⟨v,_,h1⟩:=H9 h;grind[b8U]|block id b ih=>intro fr s s' x h;obtain⟨r,s1,h1,h2⟩:=E8 h;obtain⟨rfl,rfl⟩:=y8 h2;exact ih _ _ _ r h1|loop b ih=>
   intro fr s s' x h;have h:Q5 (a0w p T N call b) N fr s=some (x,s'):=h;have key:∀n fr s,Q5 (a0w p T N call b) n fr s=some (x,s')->x.2.length=fr.length/\∀t,t∉a0I b->x.2[t]?=fr[t]?:=by intro n;induction n with|zero=>intro fr s h;cases h|succ n ihn=>intro fr s h;rw[Z6]at h;obtain⟨r,s1,h1,h2⟩:=E8 h;obtain⟨f1,f2⟩:=ih _ _ _ _ h1;obtain⟨rx,rf⟩:=r;cases rx with|normal=>obtain⟨g1,g2⟩:=ihn _ _ h2;simp_all|_=>obtain⟨rfl,rfl⟩:=y8 h2;exact⟨f1,f2⟩
   exact key N fr s h|exit id=>intro fr s s' x h;obtain⟨rfl,rfl⟩:=y8 h;simp_all|ret=>intro fr s s' x h;obtain⟨rfl,rfl⟩:=y8 h;simp_all|_=>intro fr s s' x h;cases h
theorem b8H {l m}(h:a9Z l m=true){t}(ht:t∉m):t∉l:=λq=>ht ((b0c _ _).1 ((R5 _ _).1 h t q))
theorem c7z {β E id}{k k':Xc->M β}(h:∀x,Le (k x) (k' x)):Le (a4g E id k) (k' (.exit id)):=by induction E with|nil=>exact Le.fail _|cons e E ih=>show Le (bcase (Nat.beq id e) (k (.exit e)) (a4g E id k)) _;cases hb:Nat.beq id e with|true=>rw[wo hb];exact h _|false=>exact ih
theorem c2v {β E n r ex}{k k':Xc->M β}(h:∀x,Le (k x) (k' x)):Le (b4C pn E n r ex k) (k' ex):=by unfold b4C;cases ex with|normal=>exact a7L (h _)|exit id=>exact c7z h|ret=>exact a7L (h _)|pan v=>exact a7L (h _)
theorem d1y (N):∀(c) (pl) (β) (fr) (k k':Xc->List Value->M β),(∀x fr,Le (k x fr) (k' x fr))->Le (O1 p T o9 pn N call c pl β fr k) (M.bind (a0w p T N call c fr) λr=>k' r.1 r.2):=by
 intro c;induction c with
  |skip=>intro pl β fr k k' hk;exact hk _ _|region id ops draw=>intro pl β fr k k' hk;exact c5N _ _ _ _ _ hk|seq a b iha ihb=>intro pl β fr k k' hk;have hb:∀fr,Le (O1 p T o9 pn N call b pl.b β fr k) (M.bind (a0w p T N call b fr) λr=>k' r.1 r.2):=λfr=>ihb pl.b β fr k k' hk;show Le _ (M.bind (M.bind (a0w p T N call a fr) λr=>X3 r.1 (a0w p T N call b r.2) (λid=>M.pure (.exit id,r.2)) (M.pure (.ret,r.2)) (λv=>M.pure (.pan v,r.2))) λr=>k' r.1 r.2);rw[a1Z];unfold O1;cases hj:pl.j with|none=>refine Le.trans (iha pl.a β fr _ (λex fr'=>X3 ex (M.bind (a0w p T N call b fr') λr=>k' r.1 r.2) (λid=>k' (.exit id) fr') (k' .ret fr') (λv=>k' (.pan v) fr')) (λx fr'=>?_)) ?_;grind[a7j];refine Le.bind (Le.refl _) λr=>?_;rw[a9y];exact a7j (λ_=>Le.refl _) (λ_ _=>Le.refl _) (λ_=>Le.refl _) (λv _=>Le.refl _)|some W=>refine Le.guard λhW=>?_;intro s r h;have h:M.bind (O1 p T o9 pn N call a pl.a (Xc×List Value) fr λex fr'=>M.pure (ex,P5 fr' W)) (λx=>b4C pn (a2L (a2u a)) true (hasRet a) x.1 λy=>X3 y (O1 p T o9 pn N call b pl.b β (M6 W x.2 fr) k) (λid=>k (.exit id) (M6 W x.2 fr)) (k .ret (M6 W x.2 fr)) (λv=>k (.pan v) (M6 W x.2 fr))) s=some r:=h;obtain⟨x,s1,h1,h2⟩:=E8 (s2:=r.2) (b:=r.1) h;have h3:=iha pl.a (Xc×List Value) fr (λex fr'=>M.pure (ex,P5 fr' W)) (λex fr'=>M.pure (ex,P5 fr' W)) (λ_ _=>Le.refl _) s _ h1;obtain⟨y,s2,f1,f2⟩:=E8 h3;obtain⟨rfl,rfl⟩:=y8 f2;obtain⟨g1,g2⟩:=b4V N a fr s _ y f1;refine a1m f1 ?_;simp only[]at h2;rw[a3d g1 (λt ht=>g2 t (b8H hW ht))]at h2;rw[a9y];exact c2v (k':=λz=>X3 z (M.bind (a0w p T N call b y.2) λr=>k' r.1 r.2) (λid=>k' (.exit id) y.2) (k' .ret y.2) (λv=>k' (.pan v) y.2)) (λx=>a7j (λ_=>hb _) (λ_ _=>hk _ _) (λ_=>hk _ _) (λv _=>hk _ _)) _ _ h2
  |cond o a b iha ihb=>
   intro pl β fr k k' hk;show Le (M.obind (Y0 T fr o) λv=>a5P v (O1 p T o9 pn N call a pl.a β fr k) (O1 p T o9 pn N call b pl.b β fr k)) (M.bind (M.obind (Y0 T fr o) λv=>a5P v (a0w p T N call a fr) (a0w p T N call b fr)) λr=>k' r.1 r.2);refine Le.obind_bind λv _=>?_;cases v with
    |bool t=>cases t with|true=>exact iha pl.a β fr k k' hk|false=>exact ihb pl.b β fr k k' hk
    |_=>exact Le.fail _
  |block id b ih=>intro pl β fr k k' hk;show Le (O1 p T o9 pn N call b pl.a β fr λex fr'=>k (a6m id ex) fr') (M.bind (M.bind (a0w p T N call b fr) λr=>M.pure (a6m id r.1,r.2)) λr=>k' r.1 r.2);rw[a1Z];exact ih pl.a β fr _ (λex fr'=>k' (a6m id ex) fr') (λx fr=>hk _ _)|loop b ih=>
   intro pl β fr k k' hk;refine Le.guard λhW=>?_;intro s r h;have h:M.bind (Q5 (λxs=>O1 p T o9 pn N call b pl.a (Xc×List Value) (M6 pl.w xs fr) λex fr'=>M.pure (ex,P5 fr' pl.w)) N (P5 fr pl.w)) (λx=>b4C pn (a2L (a2u b)) false (hasRet b) x.1 λy=>k y (M6 pl.w x.2 fr)) s=some r:=h;obtain⟨x,s1,h1,h2⟩:=E8 (s2:=r.2) (b:=r.1) h;have key:∀n (fr0:List Value) (s s1:S) (x:Xc×List Value),fr0.length=fr.length->(∀t,t∉pl.w->fr0[t]?=fr[t]?)->Q5 (λxs=>O1 p T o9 pn N call b pl.a (Xc×List Value) (M6 pl.w xs fr) λex fr'=>M.pure (ex,P5 fr' pl.w)) n (P5 fr0 pl.w) s=some (x,s1)->∃fr1,Q5 (a0w p T N call b) n fr0 s=some ((x.1,fr1),s1)/\M6 pl.w x.2 fr=fr1:=by intro n;induction n with|zero=>intro fr0 s s1 x _ _ h;cases h|succ n ihn=>intro fr0 s s1 x hl hA h;rw[Z6]at h;obtain⟨y,s2,e1,e2⟩:=E8 h;have e3:=ih pl.a (Xc×List Value) (M6 pl.w (P5 fr0 pl.w) fr) (λex fr'=>M.pure (ex,P5 fr' pl.w)) (λex fr'=>M.pure (ex,P5 fr' pl.w)) (λ_ _=>Le.refl _) s _ e1;rw[a3d hl hA]at e3;obtain⟨z,s3,f1,f2⟩:=E8 e3;obtain⟨rfl,rfl⟩:=y8 f2;obtain⟨g1,g2⟩:=b4V N b fr0 s _ z f1;have hz1:z.2.length=fr.length:=g1.trans hl;have hz2:∀t,t∉pl.w->z.2[t]?=fr[t]?:=λt ht=>(g2 t (b8H hW ht)).trans (hA t ht);obtain⟨zx,zf⟩:=z;cases zx with|normal=>obtain⟨fr1,q1,q2⟩:=ihn zf _ _ x hz1 hz2 e2;exact⟨fr1,by rw[Z6];exact a1m f1 q1,q2⟩|exit i=>obtain⟨rfl,rfl⟩:=y8 e2;exact⟨zf,by rw[Z6];exact a1m f1 rfl,a3d hz1 hz2⟩|ret=>obtain⟨rfl,rfl⟩:=y8 e2;exact⟨zf,by rw[Z6];exact a1m f1 rfl,a3d hz1 hz2⟩|pan v=>obtain⟨rfl,rfl⟩:=y8 e2;exact⟨zf,by rw[Z6];exact a1m f1 rfl,a3d hz1 hz2⟩
   obtain⟨fr1,q1,q2⟩:=key N fr s s1 x rfl (λ_ _=>rfl) h1;have h2:=c2v (k':=λy=>k' y (M6 pl.w x.2 fr)) (λy=>hk y _) _ _ h2;rw[q2]at h2;exact a1m (a:=(x.1,fr1)) q1 h2|exit id=>intro pl β fr k k' hk;exact hk _ _|ret=>intro pl β fr k k' hk;exact hk _ _|_=>intro pl β fr k k' hk;exact Le.fail _
end
end Go.V
end
