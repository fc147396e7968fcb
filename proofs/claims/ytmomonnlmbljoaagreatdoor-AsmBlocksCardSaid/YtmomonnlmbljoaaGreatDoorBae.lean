import Derived.Test.YtmomonnlmbljoaaGreatDoorBad
set_option maxRecDepth 1000000
set_option maxHeartbeats 4000000
set_option linter.unusedVariables false
set_option linter.unusedSimpArgs false
section
namespace Go.V
open Go.RowKit (Below)
section
variable {P:Program}{T:Tab}{B0:Nat}{w0:Base}{w:World}{K:KM}{s s':S}{a:Act}{fr:List Value}{v:Value}
theorem b0J {o}(h:pureV o s=some (v,s')):∃z,o=some z/\K9 3 z=true/\v=z/\s'=s:=by obtain⟨z,hz,h1⟩:=G5 h;obtain⟨hg,h2⟩:=G9 h1;obtain⟨rfl,rfl⟩:=q9 h2;simp_all
theorem b6f {d x' x p}(h:a4e d x=some p)(r:VR K x' x):a4e d x'=some p:=by
 cases r with
  |plain _=>exact h|ptr _ _=>cases d<;>first|exact h|cases h
  |slice _ _ _ _ _ _=>cases d<;>first|exact h|cases h
  |map _=>cases d<;>first|exact h|cases h
  |agg _ _=>cases d<;>cases h|tuple _ _=>cases d<;>cases h|func _ _ _ _=>cases d<;>first|exact h|cases h
  |iface _=>cases d<;>first|exact h|cases h
theorem c9V (hT:TabOk P T){t:TypeId}{d}(hd:T.types.get t=some d){x y p q}(h1:a4e d.und x=some p)(h2:a4e d.und y=some q)(h3:(p||q)=true)(w):(Op.equal t x y).run P w=.ok (p&&q) w:=by
 have hu:=Y9 hT hd w;unfold Op.equal Op.maxDepth Op.equalIn;simp only[vg,hu,wC];generalize d.und=u at*;cases u with
  |pointer e=>
   cases x with
    |pointer o1=>
     cases y with
      |pointer o2=>cases o1<;>cases o2<;>cases h1<;>cases h2<;>first|rfl|cases h3
      |_=>cases h2
    |_=>cases h1
  |slice e=>
   cases x with
    |slice o1 _ _=>
     cases y with
      |slice o2 _ _=>cases o1<;>cases o2<;>cases h1<;>cases h2<;>first|rfl|cases h3
      |_=>cases h2
    |_=>cases h1
  |map e f=>
   cases x with
    |map o1=>
     cases y with
      |map o2=>cases o1<;>cases o2<;>cases h1<;>cases h2<;>first|rfl|cases h3
      |_=>cases h2
    |_=>cases h1
  |func e f g=>cases x<;>first|(cases h1;done)|(cases y<;>first|(cases h2;done)|(cases h1;cases h2;first|rfl|cases h3))
  |interface e=>cases x<;>first|(cases h1;done)|(cases y<;>first|(cases h2;done)|(cases h1;cases h2;first|rfl|cases h3))
  |_=>cases h1
theorem c3O {d x y p q}(h1:a4e d x=some p)(h2:a4e d y=some q)(t):binOp .eql t x y=(do pure (.bool (<-Op.equal t x y)))/\binOp .neq t x y=(do pure (.bool (!(<-Op.equal t x y)))):=by cases x<;>first|(cases d<;>cases h1;done)|(cases y<;>first|(cases d<;>cases h2;done)|exact⟨rfl,rfl⟩)
theorem b8U {d x y p q op X Y}(h1:a4e d x=some p)(h2:a4e d y=some q)(hc:(isConstO X||isConstO Y)=true)(t w):(eqGuard op t X Y x y).run P w=.ok () w:=by cases op<;>first|rfl|(cases x<;>first|(cases d<;>cases h1;done)|(cases y<;>first|(cases d<;>cases h2;done)|rfl|(cases X<;>cases Y<;>first|rfl|(cases hc;done))))
theorem d7q (hT:TabOk P T){t:TypeId}{d op X Y}(hop:d1s op=true)(hd:T.types.get t=some d){x y p q}(h1:a4e d.und x=some p)(h2:a4e d.und y=some q)(h3:(p||q)=true)(hc:(isConstO X||isConstO Y)=true)(w):(do eqGuard op t X Y x y;binOp op t x y).run P w=.ok (.bool (b5f op (p&&q))) w:=by obtain⟨b1,b2⟩:=c3O h1 h2 t;have he:=c9V hT hd h1 h2 h3 w;simp only[vg,b8U h1 h2 hc t w,wC];cases op<;>first|(cases hop;done)|(rw[b1];simp[he,b5f];done)|(rw[b2];simp[he,b5f];done)
theorem d2s (hT:TabOk P T){op t X Y x y x' y'}(h:a9z P T op t X Y x y s=some (v,s'))(rx:VR K x' x)(ry:VR K y' y)(w):∃v',(do eqGuard op t X Y x' y';binOp op t x' y').run P w=.ok v' w/\VR K v' v/\s'=s:=by unfold a9z at h;cases hn:b1q T op t X Y x y with|some r=>rw[hn]at h;obtain⟨rfl,rfl⟩:=q9 h;unfold b1q at hn;split at hn;rename_i hc;simp only[wK]at hc;split at hn;rename_i d hd;split at hn;rename_i p hp;split at hn;rename_i q hq;split at hn;rename_i hpq;cases hn;exact⟨_,d7q hT hc.1 hd (b6f hp rx) (b6f hq ry) hpq hc.2 w,.plain rfl,rfl⟩;cases hn;cases hn;cases hn;cases hn;cases hn|none=>rw[hn]at h;obtain⟨hg,h1⟩:=G9 h;obtain⟨z,hz,hna,rfl,rfl⟩:=b0J h1;simp only[wK]at hg;rw[rx.eq_of_noAddr 8 hg.1,ry.eq_of_noAddr 8 hg.2];exact⟨v,a6V hz w,a0Y _ _ hna,rfl⟩
theorem e1o (hT:TabOk P T){op t x y}(h:b2t P T fr op t x y s=some (v,s'))(S:Sim B0 w0 K s.h w)(hf:VRL K a.tmps.toList fr)(hg:GK T K):R7 P B0 w0 K s' (do pure (Next.value (<-(do eqGuard op t x y (a.eval x) (a.eval y);binOp op t (a.eval x) (a.eval y))))) w v:=by
 obtain⟨vx,e1,h1⟩:=a0b h;obtain⟨vy,e2,h2⟩:=a0b h1;have rx:=O6 hf hg e1;have ry:=O6 hf hg e2;have hbin:a9z P T op t x y vx vy s=some (v,s')->R7 P B0 w0 K s' (do pure (Next.value (<-(do eqGuard op t x y (a.eval x) (a.eval y);binOp op t (a.eval x) (a.eval y))))) w v:=by intro hb;obtain⟨v',q1,q2,rfl⟩:=d2s hT hb rx ry w;exact R7.quiet S rfl q1 q2
 cases vx with
  |int k n=>
   cases vy with
    |int k' m=>have h3:(match a3k op k k' n m with|some v=>M.pure v|none=>a9z P T op t x y (.int k n) (.int k' m)) s=some (v,s'):=h2;cases hi:a3k op k k' n m with|none=>rw[hi]at h3;grind|some z=>rw[hi]at h3;obtain⟨rfl,rfl⟩:=q9 h3;have ex:=rx.eq_of_plain rfl;have ey:=ry.eq_of_plain rfl;refine R7.quiet S rfl (v':=v) ?_ (.plain (b6G (P:=P) hi t w).2);rw[ex,ey];grind[Sem.run_bind,c3M,Result.andThen_ok,b6G]
    |_=>exact absurd h2 zl
  |string p=>
   cases vy with
    |string q=>have h3:M.lift (b3U op p.data.toList q.data.toList) s=some (v,s'):=h2;obtain⟨h4,rfl⟩:=a3i h3;have ex:=rx.eq_of_plain rfl;have ey:=ry.eq_of_plain rfl;refine R7.quiet S rfl (v':=v) ?_ ?_;rw[ex,ey];grind[Sem.run_bind,c3m,Result.andThen_ok,d0l];refine .plain ?_;cases op<;>first|(cases h4;done)|(have h5:(match Nat.blt (x8 p.data.toList+x8 q.data.toList) a3W with|true=>fList (D7 p.data.toList q.data.toList) λl=>some (Value.string ⟨⟨l⟩⟩)|false=>none)=some v:=h4;rw[Z6]at h5;split at h5<;>cases h5;rfl)|(cases h4;rfl)
    |_=>exact absurd h2 zl
  |_=>exact hbin h2
theorem e4g {op x}(h:b5q P T fr op x s=some (v,s'))(S:Sim B0 w0 K s.h w)(hf:VRL K a.tmps.toList fr)(hg:GK T K):R7 P B0 w0 K s' (do pure (Next.value (<-Op.unary op (a.eval x)))) w v:=by obtain⟨vx,e1,h1⟩:=a0b h;obtain⟨hgd,h2⟩:=G9 h1;obtain⟨z,hz,hna,rfl,rfl⟩:=b0J h2;have ex:=(O6 hf hg e1).eq_of_plain hgd;rw[ex];exact R7.quiet S rfl (a6V hz w) (a0Y _ _ hna)
theorem d1a (hT:TabOk P T){t x y}(h:a8u T fr t x y s=some (v,s'))(S:Sim B0 w0 K s.h w)(hf:VRL K a.tmps.toList fr)(hg:GK T K):R7 P B0 w0 K s' (do pure (Next.value (<-Instr.index t (a.eval x) (a.eval y)))) w v:=by
 obtain⟨vx,e1,h1⟩:=a0b h;obtain⟨vy,e2,h2⟩:=a0b h1;obtain⟨j,hj,h3⟩:=G5 h2;obtain⟨d,hd,h4⟩:=X0 h3;obtain⟨k,rfl⟩:=a7B hj;have ey:=(O6 hf hg e2).eq_of_plain rfl;have rx:=O6 hf hg e1;generalize hu:d.und=u at h4;cases u with
  |string=>
   cases vx with
    |string b=>
     obtain⟨c,hc,h5⟩:=G5 h4;obtain⟨rfl,rfl⟩:=q9 h5;have ex:=rx.eq_of_plain rfl;rw[a2J]at hc;have hc':b[j]?=some c:=by have hlt:j<b.data.toList.length:=(wM.1 hc).1;have hlt':j<b.size:=hlt;rw[getElem?_pos b j hlt'];rw[wO hlt]at hc;exact hc
     refine R7.quiet S rfl (v':=a7h c) ?_ (.plain rfl);rw[ex,ey];simp only[Instr.index,vg,asIntOf,vK,wC,Y9 hT hd,hu];simp[hc',a7h]|_=>exact absurd h4 zl
  |array len elem=>cases vx with|agg cs=>obtain⟨e,he,h5⟩:=X0 h4;obtain⟨hlt,h6⟩:=G9 h5;obtain⟨cs',ex,r⟩:=c9m rx;obtain⟨u',q1,q2,rfl⟩:=c1c hT h6 r w;have hlt:j<len:=zn;refine R7.quiet S rfl ?_ q2;rw[ex,ey];simp only[Instr.index,vg,asIntOf,vK,wC,Y9 hT hd,hu];simp[hlt,a1d hT he]at q1⊢;exact q1|_=>exact absurd h4 zl
  |_=>exact absurd h4 zl
theorem b3A:∀(vs) (bs),b4p vs=some bs->∃ns:List Int,vs=ns.map (λn=>Value.int .u8 n)/\bs=ns.map λn=>UInt8.ofNat n.toNat
 |[],bs,h=>by cases h;simp_all|v::vs,bs,h=>by
  have h':(match b7y v with|none=>none|some b=>(match b4p vs with|some bs=>some (b::bs)|none=>none))=some bs:=h;cases hb:b7y v with
   |none=>rw[hb]at h';cases h'|some b=>
    rw[hb]at h';cases hr:b4p vs with
     |none=>rw[hr]at h';cases h'|some bs1=>
      rw[hr]at h';cases h';obtain⟨ns,e1,e2⟩:=b3A vs bs1 hr;cases v with
       |int k n=>cases k with|u8=>cases hb;exact⟨n::ns,by rw[e1];rfl,by rw[e2];rfl⟩|_=>cases hb
       |_=>cases hb
theorem c5k (ns:List Int):∀(acc:ByteArray),ns.foldl (λr n=>r.push (UInt8.ofNat n.toNat)) acc=⟨⟨acc.data.toList++ns.map λn=>UInt8.ofNat n.toNat⟩⟩:=by induction ns<;>simp_all
theorem c5u (hT:TabOk P T){src dst x}(h:a4s T fr src dst x s=some (v,s'))(S:Sim B0 w0 K s.h w)(F:a0B K s s')(hf:VRL K a.tmps.toList fr)(hg:GK T K):R7 P B0 w0 K s' (do pure (Next.value (<-convert src dst (a.eval x)))) w v:=by
 obtain⟨vx,e1,h1⟩:=a0b h;obtain⟨sd,hs,h2⟩:=X0 h1;obtain⟨dd,hd,h3⟩:=X0 h2;have rx:=O6 hf hg e1;have us:=λw=>Y9 (P:=P) hT hs w;have ud:=λw=>Y9 (P:=P) hT hd w;generalize hu:dd.und=u at h3 ud;cases u with
  |int k=>cases vx with|int k' n=>obtain⟨rfl,rfl⟩:=q9 h3;have ex:=rx.eq_of_plain rfl;refine R7.quiet S rfl (v':=.int k (k.wrap n)) ?_ (by rw[a4u];exact .plain rfl);rw[ex];simp[convert,us,ud,Conv.intToInt]|_=>exact absurd h3 zl
  |slice e=>
   cases vx with
    |string b=>
     obtain⟨i,hi,h4⟩:=X0 h3;obtain⟨hgd,h5⟩:=G9 h4;obtain⟨ad,s1,h6,h7⟩:=C8 h5;obtain⟨rfl,rfl⟩:=q9 h7;have ex:=rx.eq_of_plain rfl;simp only[wK,F9]at hgd;have hlen:b.data.toList.length=b.size:=rfl;have hby:i.und=.int .u8:=by
      have:=hgd.1;cases hiu:i.und with
       |int k=>cases k<;>first|rfl|(rw[hiu]at this;cases this)
       |_=>rw[hiu]at this;cases this
     rw[a0R]at h6;have hv:VRL K (b.data.toList.map a7h) (b.data.toList.map a7h):=VRL.refl_plain _ (λy hy=>by obtain⟨z,_,rfl⟩:=uS.1 hy;rfl);let cap:=(Question.appendCap b.size 0 e).cut (w.tape w.drawn (Question.appendCap b.size 0 e));have hcap:b.size<=cap:=by show b.size<=b.size+_%_;omega
     let arr:Array Value:=b.data.map (λx=>Value.int .u8 x.toNat)++Array.replicate (cap-b.size) (.int .u8 0);have harr:arr.toList=b.data.toList.map a7h++List.replicate (cap-b.size) (.int .u8 0):=by simp only[arr,rX,Array.toList_map,rM];rfl
     have hasz:arr.size=cap:=by rw[<-uV,harr];simp_all
     let w1:World:=(w.drew.alloc (.cells arr e));let w2:World:=w1.freeze {block:=w.heap.size,off:=arr.size} 1;have hblk:w2.heap[w.heap.size]?=some (.cells arr e (arr.size,arr.size+1)):=by show((w.heap.push (.cells arr e (0,0))).modify w.heap.size _)[w.heap.size]?=_;rw[rF,vH rfl,oG];rfl
     have G:Grew w w2:=by refine⟨rfl,rfl,rfl,?_,?_⟩;grind;intro k hk;show((w.heap.push (.cells arr e (0,0))).modify w.heap.size _)[k]?=_;rw[rF,vN zy,Array.getElem?_push,vN zy]
     obtain⟨K',k1,k2,rfl⟩:=a6m (w':=w2) (arr:=arr) (e:=e) h6 S F hv G hblk harr (λo ho=>zy);refine R7.step (v':=.slice (some ⟨w.heap.size,0,none⟩) b.size cap) (w':=w2) ?_ k1 ?_;rw[ex];have ue:=λw=>Y9 (P:=P) hT hi w;rw[hby]at ue;simp only[convert,vg,us,ud,wC];cases sd.und<;>(simp only[vg,ue,wC,Conv.stringToBytes,run_choose,Question.forced,uo,tO,newRow,nQ,vK,markStringish,run_shape];simp only[World.shape?,oG];rfl);rw[F9];refine VR.slice (off:=0) k2 (vC _) zy hcap (Or.inr rfl) (Or.inr ⟨rfl,rfl,λ_=>?_⟩);simp_all|_=>exact absurd h3 zl
  |string=>
   cases vx with
    |string b=>obtain⟨rfl,rfl⟩:=q9 h3;have ex:=rx.eq_of_plain rfl;refine R7.quiet S rfl (v':=.string b) ?_ (.plain rfl);rw[ex];simp_all[convert]|int k n=>obtain⟨rfl,rfl⟩:=q9 h3;have ex:=rx.eq_of_plain rfl;refine R7.quiet S rfl (v':=.string (Utf8.encode n)) ?_ (.plain rfl);rw[ex];simp only[convert,vg,us,ud,wC];cases sd.und<;>rfl|slice o len es=>
     generalize hsu:sd.und=su at h3 us;cases su with
      |slice e=>
       obtain⟨_,h4⟩:=G9 h3;obtain⟨i,hi,h5⟩:=X0 h4;obtain⟨hgd,h6⟩:=G9 h5;obtain⟨vs,s1,h7,h8⟩:=C8 h6;obtain⟨bs,hbs,h9⟩:=G5 h8;obtain⟨rfl,rfl⟩:=q9 h9;obtain⟨n,vs',c1,c2,c3,c4,c5,c6⟩:=b6x (P:=P) h7 zy S rx;have hby:i.und=.int .u8:=by
        cases hiu:i.und with
         |int k=>cases k<;>first|rfl|(rw[hiu]at hgd;cases hgd)
         |_=>rw[hiu]at hgd;cases hgd
       have ue:=λw=>Y9 (P:=P) hT hi w;rw[hby]at ue;obtain⟨ns,e2,e3⟩:=b3A vs bs hbs;have hvs:vs'=ns.map (λn=>Value.int .u8 n):=by
        apply uj;intro j;rw[<-e2];cases hj:vs[j]? with
         |none=>rw[vo (by rw[c3.len];simp_all)]|some z=>
          obtain⟨z',q1,q2⟩:=c3.get? hj;rw[q1];have:z∈ns.map (λn=>Value.int .u8 n):=by rw[<-e2];grind
          obtain⟨m,_,rfl⟩:=uS.1 this;rw[q2.eq_of_plain rfl]
       refine R7.quiet S c5 (v':=.string ⟨⟨bs⟩⟩) ?_ (.plain rfl);have hconv:(convert src dst (a.eval x)).run P w=(Conv.bytesToString (a.eval x)).run P w:=by rcases a3G rx with⟨_,ad',cap,_,p2,_⟩|⟨_,_,_,p4⟩;rw[p2];simp_all[convert];simp_all[convert]
       rw[hconv];rcases a3G rx with⟨_,ad',cap,_,p2,_⟩|⟨_,_,_,p4⟩;rw[p2]at c1 c2⊢;have hn:n=len:=by have:=c1 w;simp_all[Builtin.lenOf]
       have hl:(loadCells ad' len).run P w=.ok ((ns.map (λn=>Value.int .u8 n)).toArray) w:=by have:=c2 w (λ_=>rfl);rw[hvs,hn]at this;grind[Builtin.firstCells]
       rw[run_bytesToString w ad' len cap ns hl,c5k,e3];simp;rw[p4]at c1 c2⊢;have hn:n=0:=by have:=c1 w;simp_all[Builtin.lenOf]
       have:vs'=[]:=rH (by rw[c4,hn]);rw[this]at hvs;have hns:ns=[]:=zo;rw[e3,hns];rfl|_=>exact absurd h3 zl
    |_=>cases hq:sd.und<;>rw[hq]at h3<;>exact absurd h3 zl
  |_=>exact absurd h3 zl
theorem c7q (hT:TabOk P T){b args ts ty consts}(h:a0N P T fr b args ts s=some (v,s'))(S:Sim B0 w0 K s.h w)(F:a0B K s s')(hf:VRL K a.tmps.toList fr)(hg:GK T K):R7 P B0 w0 K s' (builtin b ts ty consts (args.map a.eval)) w v:=by
 obtain⟨vs,e1,h1⟩:=a6t h;have r:=a6h hf hg e1;have hargs:args.map a.eval=(args.toList.map a.eval).toArray:=zo;rw[hargs];cases b with
  |append=>obtain⟨hlen2,h2⟩:=G9 h1;rw[F9]at hlen2;obtain⟨v',w',K',q1,q2,q3⟩:=c5S (ty:=ty) hT (by rw[r.len];simp_all) h2 S F r;exact R7.step q1 q2 q3|len=>
   obtain⟨t,e2,h2⟩:=G5 h1;obtain⟨d,hd,h3⟩:=X0 h2;obtain⟨x,e3,h4⟩:=G5 h3;rw[a2J,a8f]at e2;rw[a2J]at e3;obtain⟨x',e4,rx⟩:=r.get? e3;have e4':(args.toList.map a.eval).toArray[0]?=some x':=zo;have hu:=Y9 (P:=P) hT hd w;have hlen:∃n,(Builtin.len_ ts ty (args.toList.map a.eval).toArray).run P w=.ok (goInt n) w/\v=goInt n/\s'.h=s.h:=by
    unfold Builtin.len_;simp only[e2,e4'];simp only[vg,hu,wC];unfold d1G at h4;generalize d.und=u at*;cases u with
     |array n e=>obtain⟨rfl,rfl⟩:=q9 h4;exact⟨n,rfl,rfl,rfl⟩|string=>cases x with|string p=>obtain⟨rfl,rfl⟩:=q9 h4;rw[rx.eq_of_plain rfl];exact⟨p.size,rfl,by rw[F9];rfl,rfl⟩|_=>exact absurd h4 zl
     |slice e=>cases x with|slice o n es=>obtain⟨rfl,rfl⟩:=q9 h4;rcases a3G rx with⟨_,ad',cap,_,p2,_⟩|⟨_,p2,_,p4⟩;rw[p2];exact⟨n,rfl,rfl,rfl⟩;rw[p4,p2];exact⟨0,rfl,rfl,rfl⟩|_=>exact absurd h4 zl
     |map k e=>obtain⟨es,s1,h5,h6⟩:=C8 h4;obtain⟨rfl,rfl⟩:=q9 h6;obtain⟨c1,c2,c3⟩:=b0Z h5 S rx;rcases c3 with⟨q1,rfl⟩|⟨b,l,es',clock,_,q2,q3,q4,q5,q6,q7⟩;rw[q1];exact⟨0,rfl,rfl,c1⟩;rw[q2];simp only[vg,a6F q6 zn,wC,vK];exact⟨es'.size,rfl,by rw[F9,<-q7.len];simp,c1⟩|_=>exact absurd h4 zl
   obtain⟨n,q1,rfl,q3⟩:=hlen;exact R7.quiet S q3 q1 (.plain rfl)|max=>obtain⟨hp,h2⟩:=G9 h1;obtain⟨z,hz,hna,rfl,rfl⟩:=b0J h2;have hvs:args.toList.map a.eval=vs:=yO;rw[hvs];exact R7.quiet S rfl (a6V hz w) (a0Y _ _ hna)|min=>obtain⟨hp,h2⟩:=G9 h1;obtain⟨z,hz,hna,rfl,rfl⟩:=b0J h2;have hvs:args.toList.map a.eval=vs:=yO;rw[hvs];exact R7.quiet S rfl (a6V hz w) (a0Y _ _ hna)|_=>exact absurd h1 zl
theorem c1W (hT:TabOk P T){o}(h:O7 P T fr o.op s=some (v,s'))(S:Sim B0 w0 K s.h w)(F:a0B K s s')(hf:VRL K a.tmps.toList fr)(hg:GK T K):R7 P B0 w0 K s' (execOp a.eval o) w v:=by obtain⟨dst,op,type,pos,after,guard⟩:=o;cases op with|move x=>exact c4M h S hf hg|assign x=>exact c4M h S hf hg|pick c x y=>exact d6q h S hf hg|alloc t=>exact d2T hT h S F|box t x=>exact e2l h S F hf hg|build t ps=>exact d2j hT h S hf hg|buildSlice t len ps=>exact b8Y hT h S F hf hg|load t x=>exact d7c hT h S hf hg|store t x y=>exact d2Y hT h S hf hg|nilCheck x=>exact c3I rfl h S hf hg|binOp op t x y yt=>exact e1o hT h S hf hg|unOp op t x=>exact e4g h S hf hg|convert x y z=>exact c5u hT h S F hf hg|makeInterface t x=>exact d1L hT h S hf hg|makeFunc fn x y=>exact d6g h S hf hg|makeMap t r=>exact e1p hT h S F hf hg|makeSlice t x y=>exact d6I hT h S F hf hg|slice t x lo hi mx=>exact d2C hT h S hf hg|fieldAddr t x f=>exact c1q hT h S hf hg|field t x f=>exact d0W hT h S hf hg|indexAddr t x i=>exact c0l hT h S hf hg|index t x i=>exact d1a hT h S hf hg|lookup t x i ok=>exact d0O hT h S hf hg|mapUpdate t m k x=>exact b8M hT h S hf hg|insert t m k x=>exact b8M hT h S hf hg|range t x=>exact d3B hT h S F hf hg|next x str=>exact d5U h S hf hg|extract x i=>exact c7e h S hf hg|_=>exact absurd h zl
def a4Q (P:Program)(T:Tab)(B0:Nat)(w0:Base)(call:Nat->List Value->M Value):Prop:=∀f vs s v s' w K vs',call f vs s=some (v,s')->Sim B0 w0 K s.h w->GK T K->a0B K s s'->VRL K vs' vs->(∃v' w' K',(callFunc f vs'.toArray).run P w=.ok (.value v') w'/\Step B0 w0 K s' w' K'/\VR K' v' v)\/((callFunc f vs'.toArray).run P w=.ok (.enter f vs'.toArray) w/\Calls P f vs'.toArray w λe w'=>∃v' K',e=.returned v'/\Step B0 w0 K s' w' K'/\VR K' v' v)
theorem b8b {x' fn x y}(r:VR K x' (.func fn x y)):∃x1 y1,x'=.func fn x1 y1/\VRL K x1.toList x.toList/\VRL K y1.toList y.toList:=by generalize hv:Value.func fn x y=z at r;cases r with|plain hp=>grind[V.plain]|func h1 h2 h3 h4=>cases hv;exact⟨_,_,rfl,⟨h1,h2⟩,⟨h3,h4⟩⟩|_=>cases hv
theorem b0V (hT:TabOk P T){call}(hC:a4Q P T B0 w0 call){o:Oper}(h:Z0 P T call fr o.op s=some (v,s'))(S:Sim B0 w0 K s.h w)(F:a0B K s s')(hf:VRL K a.tmps.toList fr)(hg:GK T K){next}{Q}(hn:∀v' w' K',Step B0 w0 K s' w' K'->VR K' v' v->next (a.put o.dst v') w'):o.wp P a w next Q:=by
 have good:R7 P B0 w0 K s' (execOp a.eval o) w v->o.wp P a w next Q:=by rintro⟨n,w',K',r1,r2,r3⟩;unfold Oper.wp;rw[r1];rcases r3 with⟨v',rfl,r⟩|⟨rfl,rfl⟩;exact hn v' w' K' r2 r;exact hn undef w' K' r2 (VR.undef K')
 unfold Z0 at h;cases hc:b1i o.op with
  |none=>rw[hc]at h;grind[c1W]|some c=>
   rw[hc]at h;have hop:o.op=.call c:=by cases ho:o.op<;>rw[ho]at hc<;>first|(cases hc;rfl)|cases hc
   have h':b1x P T call fr c s=some (v,s'):=h;have hex:execOp a.eval o=(do let d<-resolve a.eval c o.type;invoke d.target d.args):=by grind[execOp]
   unfold b1x at h';cases hcal:c.callee with
    |builtin b=>rw[hcal]at h';grind[c7q,resolve,invoke]|value f=>
     rw[hcal]at h';obtain⟨vf,e1,h1⟩:=a0b h';obtain⟨vs,e2,h2⟩:=a6t h1;have rf:=O6 hf hg e1;have rs:=a6h hf hg e2;cases vf with
      |func fn first captured=>
       cases fn with
        |func g=>
         have h3:call g (D7 first.toList (D7 vs captured.toList)) s=some (v,s'):=h2;rw[D9,D9]at h3;obtain⟨f1,c1,ef,rf1,rc1⟩:=b8b rf;have rargs:VRL K (f1.toList++(c.args.toList.map a.eval++c1.toList)) (first.toList++(vs++captured.toList)):=rf1.append (rs.append rc1);have e:execOp a.eval o=callFunc g (f1.toList++(c.args.toList.map a.eval++c1.toList)).toArray:=by rw[hex];unfold resolve;rw[hcal];show(do let d<-Deferred.ofValue (a.eval f) (c.args.map a.eval);invoke d.target d.args)=_;rw[ef];show callFunc g (f1++c.args.map a.eval++c1)=_;congr 1;simp_all
         rcases hC g _ s v s' w K _ h3 S hg F rargs with⟨v',w',K',q1,q2,q3⟩|⟨q1,q2⟩;exact good ⟨.value v',w',K',by rw[e];exact q1,q2,Or.inl ⟨v',rfl,q3⟩⟩;unfold Oper.wp;rw[e,q1];refine q2.mono λen w' hq=>?_;grind|_=>exact absurd h2 zl
      |_=>exact absurd h2 zl
    |invoke r m=>rw[hcal]at h';cases h'
theorem a9K (ops tmps)(hf:VRL K tmps.toList fr)(o):Region.wanted o (yielded ops tmps)=a1U ops.toList fr o:=by
 unfold Region.wanted a1U;cases o.guard with
  |none=>rfl|some jb=>
   obtain⟨j,b⟩:=jb;show(yielded ops tmps j==some b)=(match a4l ops.toList j with|some t=>a1O b (C9 fr t)|none=>false);have hd:a4l ops.toList j=(ops[j]?).bind (·.dst):=by grind[a4l,a2J]
   rw[hd];unfold yielded;cases ho:ops[j]? with
    |none=>rfl|some o'=>
     simp only[Option.bind_some];cases o'.dst with
      |none=>rfl|some t=>
       show((match tmps[t]? with|some (.bool b)=>some b|_=>none)==some b)=a1O b (C9 fr t);have r:=hf.lget t;rw[a4d tmps.toList,a8f]at r;cases ht:tmps[t]? with
        |none=>
         have:C9 fr t=undef:=by rw[a4d,vo];rfl;rw[<-hf.len];grind
         rw[this];rfl|some x=>
         rw[ht]at r;have r:VR K x (C9 fr t):=r;generalize C9 fr t=y at r;cases r with
          |plain hp=>cases x<;>first|rfl|grind[bool]
          |_=>rfl
theorem a8R {K'}(hf:VRL K' a.tmps.toList fr)(o){v'}(r:VR K' v' v):VRL K' (a.put o.dst v').tmps.toList (Q6 fr o v):=by unfold Act.put Q6;cases o.dst with|none=>exact hf|some t=>have:=hf.lset t r;simp_all
theorem a2T (a:Act)(d v):(a.put d v).defers=a.defers:=by cases d<;>rfl
theorem Step.trans {s1 s2 w1 w2 K1 K2}(h1:Step B0 w0 K s1 w1 K1)(h2:Step B0 w0 K1 s2 w2 K2)(hc:s1.c<=s2.c):Step B0 w0 K s2 w2 K2:=⟨KM.le_trans h1.le h2.le,λi g hi=>(h2.far i g hi).trans (h1.far i g (vQ hc hi)),h2.sim⟩
theorem a0B.right {α}{m:M α}{x s1 s2 K1}(F:a0B K s s2)(hm:Fr m)(h1:m s=some (x,s1)):a0B K1 s1 s2:=λi hi hi2=>by obtain⟨dr,dw,_,_,e3,_,e5,_,e7,_⟩:=hm s x s1 h1;rw[e7 i (λq=>by have:=e5 i q;omega)];exact F i (vQ e3 hi) hi2
theorem a0B.left {s1 s2}(F:a0B K s s2)(hc:s1.c<=s2.c):a0B K s s1:=λi hi hi2=>F i hi (wD hi2 hc)
theorem Fr.le {α}{m:M α}(h:Fr m){x}(e:m s=some (x,s')):s.c<=s'.c:=let⟨_,_,_,_,q,_⟩:=h s x s' e;q
def b3i (B0:Nat)(w0:Base)(K:KM)(s':S)(ds:List Deferred)(ex:Ex)(fr':List Value):Exit->Act->World->Prop:=λe a' w'=>∃K',Step B0 w0 K s' w' K'/\VRL K' a'.tmps.toList fr'/\a'.defers=ds/\(match ex with|.normal=>e=.normal|.exit id=>e=.exit id|.ret=>e=.ret)
theorem c8r (hT:TabOk P T){call}(hC:a4Q P T B0 w0 call)(hF:∀f vs,Fr (call f vs))(ops){Q}:∀(n k) (fr fr') (s s') (K) (a) (w),k+n=ops.size->a6c P T call ops.toList (ops.toList.drop k) fr s=some (fr',s')->Sim B0 w0 K s.h w->a0B K s s'->VRL K a.tmps.toList fr->GK T K->(∀a' w' K',Step B0 w0 K s' w' K'->VRL K' a'.tmps.toList fr'->a'.defers=a.defers->Q .normal a' w')->wpOps P ops Q (List.range' k n) a w:=by intro n;induction n with|zero=>intro k fr fr' s s' K a w hk h S F hf hg hq;have:ops.toList.drop k=[]:=qL zm;rw[this]at h;obtain⟨rfl,rfl⟩:=q9 h;exact hq a w K (Step.same S rfl) hf rfl|succ n ih=>intro k fr fr' s s' K a w hk h S F hf hg hq;have hlt:k<ops.size:=zy;have hd:ops.toList.drop k=ops[k]::ops.toList.drop (k+1):=xH;rw[hd,b1d]at h;rw[qF];simp only[wpOps,sF hlt];rw[a9K ops a.tmps hf];cases hw:a1U ops.toList fr ops[k]with|true=>rw[hw]at h;simp only[pz]at h⊢;left;obtain⟨v,s1,h1,h2⟩:=C8 h;have hle2:=(Fr.runOps P T hF _ _ _).le h2;refine b0V hT hC h1 S (F.left hle2) hf hg λv' w' K' st r=>?_;refine ih (k+1) _ fr' s1 s' K' _ w' zy h2 st.sim (F.right (Fr.stepOp P T hF _ _) h1) (a8R (hf.mono st.le) _ r) (hg.mono st.le) λa2 w2 K2 st2 r2 d2=>?_;exact hq a2 w2 K2 (st.trans st2 hle2) r2 (by rw[d2,a2T])|false=>rw[hw]at h;simp only[uo,tO]at h⊢;refine ih (k+1) _ fr' s s' K _ w zy h S F (a8R hf _ (VR.undef K)) hg λa2 w2 K2 st2 r2 d2=>?_;grind[a2T]
end
end Go.V
end
section
namespace Go.V
open Go.RowKit (Below)
section
variable {P:Program}{T:Tab}{fr fr2:List Value}
theorem b0B (i l):a2M i l=true↔i∈l:=by induction l with|nil=>constructor<;>intro h<;>cases h|cons x l ih=>show(match Nat.beq i x with|true=>true|false=>a2M i l)=true↔_;cases h:Nat.beq i x with|true=>simp_all|false=>have:i≠x:=λe=>zn;simp_all
theorem b5M (l m):a0e l m=true↔∀i,i∈l->i∉m:=by grind[a0e,M4,b0B]
theorem c5t {t:Nat}{xs}(h:Operand.tmp t∈xs):t∈b1A xs:=by induction xs with|nil=>cases h|cons x xs ih=>show t∈(match x with|.tmp t=>t::b1A xs|_=>b1A xs);grind
theorem c3i {x:Operand}(h:∀t,x=.tmp t->C9 fr t=C9 fr2 t):X7 T fr x=X7 T fr2 x:=by cases x with|tmp t=>show some (C9 fr t)=some (C9 fr2 t);rw[h t rfl]|_=>rfl
theorem a3v {xs}(h:∀x∈xs,X7 T fr x=X7 T fr2 x):a0T T fr xs=a0T T fr2 xs:=by induction xs<;>first|rfl|grind[a0T]
theorem b7X {o}(h:∀x∈o.operands.toList,X7 T fr x=X7 T fr2 x):O7 P T fr o=O7 P T fr2 o:=by
 cases o with
  |move x=>show M.lift _=M.lift _;rw[h x (by simp[Op.operands])]|assign x=>show M.lift _=M.lift _;rw[h x (by simp[Op.operands])]|pick c x y=>show b0z T fr c x y=b0z T fr2 c x y;simp_all[b0z,ev,Op.operands]|alloc t=>rfl|box t x=>show b2z T fr x=b2z T fr2 x;grind[b2z,ev,Op.operands]|build t ps=>show a8B T fr t ps=a8B T fr2 t ps;have:a0T T fr (U0 (·.2) ps.toList)=a0T T fr2 (U0 (·.2) ps.toList):=a3v (λx hx=>h x (by rw[a0R]at hx;grind[Op.operands]));grind[a8B,evs]|buildSlice t len ps=>show a3O T fr t len ps=a3O T fr2 t len ps;have:a0T T fr (U0 (·.2) ps.toList)=a0T T fr2 (U0 (·.2) ps.toList):=a3v (λx hx=>h x (by rw[a0R]at hx;grind[Op.operands]));grind[a3O,evs]|load t x=>show a7S T fr t x=a7S T fr2 t x;grind[a7S,ev,Op.operands]|store t x y=>show a8z T fr t x y=a8z T fr2 t x y;grind[a8z,ev,Op.operands]|nilCheck x=>show a5c T fr x=a5c T fr2 x;grind[a5c,ev,Op.operands]|binOp op t x y yt=>show b2t P T fr op t x y=b2t P T fr2 op t x y;grind[b2t,ev,Op.operands]|unOp op t x=>show b5q P T fr op x=b5q P T fr2 op x;grind[b5q,ev,Op.operands]|convert x y z=>show a4s T fr x y z=a4s T fr2 x y z;grind[a4s,ev,Op.operands]|makeInterface t x=>show a8F T fr t x=a8F T fr2 t x;grind[a8F,ev,Op.operands]|makeFunc fn x y=>show b0r T fr fn x y=b0r T fr2 fn x y;have e1:a0T T fr x.toList=a0T T fr2 x.toList:=a3v (λz hz=>h z yB);have e2:a0T T fr y.toList=a0T T fr2 y.toList:=a3v (λz hz=>h z yB);grind[b0r,evs]|makeMap t r=>cases r with|none=>rfl|some x=>show b2l T fr t (some x)=b2l T fr2 t (some x);grind[b2l,ev,Op.operands]
  |makeSlice t x y=>show b0f T fr t x y=b0f T fr2 t x y;grind[b0f,ev,Op.operands]|slice t x lo hi mx=>show a8M T fr t x lo hi mx=a8M T fr2 t x lo hi mx;have e1:a0T T fr lo.toList=a0T T fr2 lo.toList:=a3v (λz hz=>h z yB);have e2:a0T T fr hi.toList=a0T T fr2 hi.toList:=a3v (λz hz=>h z yB);have e3:a0T T fr mx.toList=a0T T fr2 mx.toList:=a3v (λz hz=>h z yB);simp_all[a8M,evs,ev,Op.operands]|fieldAddr t x f=>show a4G T fr t x f=a4G T fr2 t x f;grind[a4G,ev,Op.operands]|field t x f=>show a6w T fr t x f=a6w T fr2 t x f;grind[a6w,ev,Op.operands]|indexAddr t x i=>show a2R T fr t x i=a2R T fr2 t x i;grind[a2R,ev,Op.operands]|index t x i=>show a8u T fr t x i=a8u T fr2 t x i;grind[a8u,ev,Op.operands]|lookup t x i ok=>show a7k T fr t x i ok=a7k T fr2 t x i ok;grind[a7k,ev,Op.operands]|mapUpdate t m k x=>show a3L T fr t m k x=a3L T fr2 t m k x;simp_all[a3L,ev,Op.operands]|insert t m k x=>show a3L T fr t m k x=a3L T fr2 t m k x;simp_all[a3L,ev,Op.operands]|range t x=>show a8A T fr t x=a8A T fr2 t x;grind[a8A,ev,Op.operands]|next x str=>show b0d T fr x str=b0d T fr2 x str;grind[b0d,ev,Op.operands]|extract x i=>show a6n T fr x i=a6n T fr2 x i;grind[a6n,ev,Op.operands]|_=>rfl
theorem c2U {call o}(h:∀x∈o.operands.toList,X7 T fr x=X7 T fr2 x):Z0 P T call fr o=Z0 P T call fr2 o:=by
 unfold Z0;cases hc:b1i o with
  |none=>exact b7X h|some c=>
   have hop:o=.call c:=by cases o<;>first|(cases hc;rfl)|cases hc
   subst hop;have ha:a0T T fr c.args.toList=a0T T fr2 c.args.toList:=a3v (λz hz=>h z (by grind[Op.operands,Call.operands]));show b1x P T call fr c=b1x P T call fr2 c;unfold b1x;cases hcal:c.callee with|value f=>have hf:X7 T fr f=X7 T fr2 f:=h f (by simp[Op.operands,Call.operands,hcal]);grind[a5g,ev,evs]|builtin b=>grind[a0N,evs]|invoke r m=>rfl
theorem b4t {call ops o}(h:∀t,t∈a3o ops o->C9 fr t=C9 fr2 t):Z0 P T call fr o.op=Z0 P T call fr2 o.op/\a1U ops fr o=a1U ops fr2 o:=by refine⟨c2U λx hx=>c3i λt ht=>h t ?_,?_⟩;grind[c5t,a3o];grind[a1U,a3o]
end
def a6O {β:Type}(X:Nat->β)(inD inW:Nat->Bool):Nat->β|0=>X 0|k+1=>if inD k&&inW k then X (k+1)else a6O X inD inW k
section
variable {β:Type}{X:Nat->β}{inD inW:Nat->Bool}{n:Nat}
theorem b2d (hX:∀k,k<n->inW k=false->X (k+1)=X k)(i)(h:∀j,j<n->inW j=true->(inD j=true↔j<i))(hi:i<=n):a6O X inD inW n=X i:=by
 have key:∀k,k<=n->a6O X inD inW k=X (min k i):=by intro k;induction k<;>first|rfl|grind[a6O]
 rw[key n (wQ _),Nat.min_eq_right hi]
theorem c1f (hX:∀k,k<n->inW k=false->X (k+1)=X k)(h:∀j,j<n->inD j=true):a6O X inD inW n=X n:=b2d hX n (λj hj _=>⟨λ_=>hj,λ_=>h j hj⟩) (wQ _)
theorem c1e {inD'}(h:∀j,j<n->inW j=true->inD' j=inD j):a6O X inD' inW n=a6O X inD inW n:=xD
theorem c4F (i)(hi:i<n)(hd:inD i=true)(hw:inW i=true)(h:∀j,i<j->j<n->inD j=true->inW j=false):a6O X inD inW n=X (i+1):=xD
theorem b2Q (h:∀j,j<n->inD j=true->inW j=false):a6O X inD inW n=X 0:=xD
end
theorem c8k {ops x y}(h:free2 ops x y=true):(∀i,i∈x.2.2->i∉y.2.1)/\(∀i,i∈x.2.2->i∉y.2.2)/\(∀i,i∈y.2.2->i∉x.2.1)/\(∀i,i∈a2D x.1->i∉a3o ops y.1)/\(∀i,i∈a2D x.1->i∉a2D y.1)/\(∀i,i∈a2D y.1->i∉a3o ops x.1):=by simp_all[free2,b5M]
theorem c1O {ops pj y}:∀(xs) (k),a7H ops pj y xs k=true->∀(i) x,xs[i]?=some x->(k+i)∈pj\/free2 ops x y=true:=by intro xs;induction xs with|nil=>simp_all|cons x0 xs ih=>intro k h i x hx;have h':(match a2M k pj||free2 ops x0 y with|true=>a7H ops pj y xs (k+1)|false=>false)=true:=h;cases hb:a2M k pj||free2 ops x0 y with|false=>rw[hb]at h';cases h'|true=>rw[hb]at h';cases i with|zero=>simp_all[b0B]|succ i=>have:=ih (k+1) h' i x zo;rwa[show k+1+i=k+(i+1) by omega]at this
theorem c9D {f l p}(h:p∈a4J f l):∃e∈l,p∈f e:=by induction l<;>first|rfl|grind[a4J,D9]
theorem c3N {ops}:∀(ys xs) (psl) (n),a2V ops ys xs psl n=true->xs.length=n->psl.length=n->∃ps:Nat->List Nat,(∀i l,psl[i]?=some l->ps i=l)/\∀(j) y,ys[j]?=some y->(∀e∈y.1.after.toList,Region.binds .any e=true->e.on<n+j)/\(∀p,p∈ps (n+j)->∃e∈y.1.after.toList,Region.binds .any e=true/\(p=e.on\/p∈ps e.on))/\(∀(i) x,i<n+j->(xs++ys)[i]?=some x->i∈ps (n+j)\/free2 ops x y=true):=by
 intro ys;induction ys with
  |nil=>intro xs psl n _ _ _;exact⟨λi=>(psl[i]?).getD [],λi l h=>by simp[h],λj y h=>by simp at h⟩|cons y ys ih=>
   intro xs psl n h hx hp;have h':(match a7F n y.1.after.toList&&a7H ops (a4J (a6a psl) y.1.after.toList) y xs 0 with|true=>a2V ops ys (D7 xs [y]) (D7 psl [a4J (a6a psl) y.1.after.toList]) (n+1)|false=>false)=true:=h;cases hb:a7F n y.1.after.toList&&a7H ops (a4J (a6a psl) y.1.after.toList) y xs 0 with
    |false=>rw[hb]at h';cases h'|true=>
     rw[hb]at h';simp only[D9]at h';simp only[wK]at hb;obtain⟨ps,p1,p2⟩:=ih (xs++[y]) (psl++[a4J (a6a psl) y.1.after.toList]) (n+1) h' zZ (by simp[hp]);have hpsn:ps n=a4J (a6a psl) y.1.after.toList:=p1 n _ (by rw[vG zy,hp];simp);refine⟨ps,λi l hi=>p1 i l (by rw[vF (by have:=(wM.1 hi).1;exact this)];exact hi),λj z hz=>?_⟩;cases j with
      |zero=>
       simp at hz;subst hz;refine⟨λe he hbi=>?_,λp hpp=>?_,λi x hi hix=>?_⟩;have:=(M4 _ _).1 hb.1 e he;rw[hbi]at this;simp_all;rw[vB,hpsn]at hpp;obtain⟨e,he,hpe⟩:=c9D hpp;have hpe':p∈(match Region.binds .any e with|true=>(match a0l psl e.on with|some l=>e.on::l|none=>[])|false=>[]):=hpe;cases hbi:Region.binds .any e<;>first|rfl|grind[a2J]
       rw[vF zy]at hix;have:=c1O xs 0 hb.2 i x hix;rw[vV]at this;rw[vB,hpsn];exact this|succ j=>have:=p2 j z zo;rw[show n+1+j=n+(j+1) by omega]at this;simp_all
end Go.V
end
section
namespace Go.V
open Go.RowKit (Below)
section
variable {P:Program}{T:Tab}{B0:Nat}{w0:Base}{w:World}{K:KM}{s s':S}{a:Act}{fr:List Value}{v:Value}
structure Trace (P:Program) (T:Tab) (call:Nat→List Value→M Value) (L:List Oper) (feet:List (List Nat×List Nat)) (C:Nat→Nat) (H:Nat→Trie VObj) (FR:Nat→List Value) (k n:Nat):Prop where
 op:∀ i,k≤i→i<n→∃ o ft,L[i]?=some o∧feet[i - k]?=some ft ∧
  ((a1U L (FR i) o=true∧∃ v,Z0 P T call (FR i) o.op ⟨C i,H i, [], []⟩=some (v,⟨C (i+1),H (i+1),ft.1,ft.2⟩)∧FR (i+1)=Q6 (FR i) o v) ∨
   (a1U L (FR i) o=false∧ft=([], [])∧C (i+1)=C i∧H (i+1)=H i∧FR (i+1)=Q6 (FR i) o undef))
theorem c5T {call}(L):∀(m k) (fr fr') (s s') (feet),k+m=L.length->a2s P T call L (L.drop k) fr s=some ((fr',feet),s')->feet.length=m/\∃C H FR,C k=s.c/\H k=s.h/\FR k=fr/\C (k+m)=s'.c/\H (k+m)=s'.h/\FR (k+m)=fr'/\Trace P T call L feet C H FR k (k+m):=by
 intro m;induction m with
  |zero=>intro k fr fr' s s' feet hk h;have:L.drop k=[]:=qL zy;rw[this]at h;have h':M.pure (fr,([]:List (List Nat×List Nat))) s=some ((fr',feet),s'):=h;obtain⟨e,rfl⟩:=q9 h';cases e;exact⟨rfl,λ_=>_,λ_=>_,λ_=>_,rfl,rfl,rfl,rfl,rfl,rfl,⟨λi h1 h2=>zy⟩⟩|succ m ih=>
   intro k fr fr' s s' feet hk h;have hlt:k<L.length:=zy;rw[tK hlt,a7w]at h;cases hw:a1U L fr L[k]with
    |true=>rw[hw]at h;simp only[pz]at h;obtain⟨x,s1,h1,h2⟩:=C8 h;obtain⟨y,s2,h3,h4⟩:=C8 h2;obtain⟨e,rfl⟩:=q9 h4;obtain⟨y1,y2⟩:=y;cases e;unfold M.foot at h1;cases hst:Z0 P T call fr L[k].op ⟨s.c,s.h,[],[]⟩with|none=>rw[hst]at h1;cases h1|some z=>obtain⟨u,sz⟩:=z;rw[hst]at h1;simp only[D9]at h1;cases h1;obtain⟨q0,C,H,FR,q1,q2,q3,q4,q5,q6,q7⟩:=ih (k+1) _ _ _ _ _ zy h3;dsimp only at q1 q2 q3;refine⟨by simp[q0],λi=>if i=k then s.c else C i,λi=>if i=k then s.h else H i,λi=>if i=k then fr else FR i,zq,zq,zq,?_,?_,?_,⟨λi h1 h2=>?_⟩⟩;grind;grind;grind;by_cases hik:i=k;simp_all;obtain⟨o,ft,t1,t2,t3⟩:=q7.op i zy zy;grind
    |false=>rw[hw]at h;simp only[uo,tO]at h;obtain⟨y,s2,h3,h4⟩:=C8 h;obtain⟨e,rfl⟩:=q9 h4;obtain⟨y1,y2⟩:=y;cases e;obtain⟨q0,C,H,FR,q1,q2,q3,q4,q5,q6,q7⟩:=ih (k+1) _ _ _ _ _ zy h3;refine⟨by simp[q0],λi=>if i=k then s.c else C i,λi=>if i=k then s.h else H i,λi=>if i=k then fr else FR i,zq,zq,zq,?_,?_,?_,⟨λi h1 h2=>?_⟩⟩;grind;grind;grind;by_cases hik:i=k;simp_all;obtain⟨o,ft,t1,t2,t3⟩:=q7.op i zy zy;grind
theorem a5D {fr fr2 t}(h:fr[t]?=fr2[t]?):C9 fr t=C9 fr2 t:=by rw[a4d,a4d,h]
theorem a2S (fr o v t):(Q6 fr o v)[t]?=if t∈a2D o/\t<fr.length then some v else fr[t]?:=by unfold Q6 a2D;cases o.dst with|none=>simp|some d=>simp only[a9X,qQ,vW];grind
theorem a3Z (fr o v):(Q6 fr o v).length=fr.length:=by grind[Q6,a9X]
theorem d1z {α β}:∀(l:List α) (m:List β) (i:Nat) (x) (y),l[i]?=some x->m[i]?=some y->(a4H l m)[i]?=some (x,y):=by intro l;induction l with|nil=>simp_all|cons a l ih=>intro m i x y h1 h2;cases m with|nil=>simp at h2|cons b m=>show((a,b)::a4H l m)[i]?=_;grind
theorem Sim.congr {h h'}(S:Sim B0 w0 K h w)(e:∀j,h'.get j=h.get j):Sim B0 w0 K h' w:=⟨S.size0,S.below,S.dom',λb g l q=>by rw[e];exact S.dom2 b g l q,S.own,S.apart,S.same,λb g l cs cur ro q1 q2 q3=>S.room b g l cs cur ro q1 q2 (by rw[<-e];exact q3),λb cs cur ro q=>S.gens b cs cur ro (by rw[<-e];exact q),λb cs cur ro g l q1=>S.cells b cs cur ro g l (by rw[<-e];exact q1),λb es q=>S.map b es (by rw[<-e];exact q),λb x p q=>S.siter b x p (by rw[<-e];exact q),λb g l q hnc=>S.gen0 b g l q λcs cur ro e'=>hnc cs cur ro (by rw[e];exact e')⟩
structure Inv (B0:Nat) (w0:Base) (T:Tab) (K0:KM) (cn n len0:Nat) (H:Nat→Trie VObj) (FR:Nat→List Value) (dw dst ps:Nat→List Nat) (ds:List Deferred) (D:Nat→Bool) (a:Act) (w:World) (K:KM) (hD:Trie VObj) (fD:List Value):Prop where
 heap:∀ id,hD.get id=a6O (fun i=>(H i).get id) D (fun i=>decide (id∈dw i)) n
 flen:fD.length=len0
 tmps:∀ t,fD[t]?=a6O (fun i=>(FR i)[t]?) D (fun i=>decide (t∈dst i)) n
 sim:Sim B0 w0 K hD w
 vrl:VRL K a.tmps.toList fD
 gk:GK T K
 le:K0.le K
 far:∀ i g,cn≤i→K i g=K0 i g
 defs:a.defers=ds
 closed:∀ j,j<n→D j=true→∀ p,p∈ps j→D p=true
theorem b4E (hT:TabOk P T)(hM:P.follows .mixedOrders=true){call}(hC:a4Q P T B0 w0 call)(hF:∀f vs,Fr (call f vs)){id}(ops){Q}{fr'}{feet}(h:a2s P T call ops.toList ops.toList fr s=some ((fr',feet),s'))(hok:a2V ops.toList (a4H ops.toList feet) [] [] 0=true)(S:Sim B0 w0 K s.h w)(F:a0B K s s')(hf:VRL K a.tmps.toList fr)(hg:GK T K)(hq:∀a' w' K',Step B0 w0 K s' w' K'->VRL K' a'.tmps.toList fr'->a'.defers=a.defers->Q .normal a' w'):(Code.region id ops true).wp P Q a w:=by
 obtain⟨hlen,C,H,FR,c1,c2,c3,c4,c5,c6,tr⟩:=c5T (P:=P) (T:=T) (call:=call) ops.toList ops.size 0 fr fr' s s' feet zq zo;rw[vV]at c4 c5 c6 tr;obtain⟨ps,_,hps⟩:=c3N _ _ _ _ hok rfl rfl;simp only[vV,vR]at hps;let dw:Nat->List Nat:=λi=>((feet[i]?).getD ([],[])).2;let dr:Nat->List Nat:=λi=>((feet[i]?).getD ([],[])).1;let dst:Nat->List Nat:=λi=>((ops.toList[i]?).map a2D).getD [];have hop:∀i,i<ops.size->∃o,ops[i]?=some o/\ops.toList[i]?=some o/\dst i=a2D o/\(a4H ops.toList feet)[i]?=some (o,(dr i,dw i))/\((a1U ops.toList (FR i) o=true/\∃v,Z0 P T call (FR i) o.op ⟨C i,H i,[],[]⟩=some (v,⟨C (i+1),H (i+1),dr i,dw i⟩)/\FR (i+1)=Q6 (FR i) o v)\/(a1U ops.toList (FR i) o=false/\dr i=[]/\dw i=[]/\C (i+1)=C i/\H (i+1)=H i/\FR (i+1)=Q6 (FR i) o undef)):=by intro i hi;obtain⟨o,ft,t1,t2,t3⟩:=tr.op i (vC _) hi;rw[qb]at t2;have e1:dr i=ft.1:=zo;have e2:dw i=ft.2:=zo;refine⟨o,zo,t1,zo,?_,?_⟩;rw[d1z _ _ i o ft t1 t2,e1,e2];grind
 have hfoot:∀i,i<ops.size->C i<=C (i+1)/\(∀x,x∈dw i->x<C (i+1))/\(∀x,C i<=x->x<C (i+1)->x∈dw i)/\(∀x,x∉dw i->(H (i+1)).get x=(H i).get x):=by intro i hi;obtain⟨o,_,_,_,_,t⟩:=hop i hi;rcases t with⟨_,v,a2,_⟩|⟨_,_,b2,b3,b4,_⟩;obtain⟨r0,w0',e1,e2,e3,e4,e5,e6,e7,e8⟩:=Fr.stepOp P T hF _ _ _ _ _ a2;simp_all;simp_all
 have hmono:∀i j,i<=j->j<=ops.size->C i<=C j:=by intro i j hij;induction j<;>grind
 have hclash:∀i j,i<j->j<ops.size->i∈ps j\/((∀x,x∈dw i->x∉dr j)/\(∀x,x∈dw i->x∉dw j)/\(∀x,x∈dw j->x∉dr i)/\(∀o o',ops.toList[i]?=some o->ops.toList[j]?=some o'->(∀t,t∈dst i->t∉a3o ops.toList o')/\(∀t,t∈dst i->t∉dst j)/\(∀t,t∈dst j->t∉a3o ops.toList o))):=by intro i j hij hj;obtain⟨oj,_,j1,j2,j3,_⟩:=hop j hj;obtain⟨oi,_,i1,i2,i3,_⟩:=hop i zy;rcases(hps j _ j3).2.2 i _ hij i3 with q|q;grind;obtain⟨f1,f2,f3,f4,f5,f6⟩:=c8k q;simp_all
 have hXh:∀x k,k<ops.size->decide (x∈dw k)=false->(H (k+1)).get x=(H k).get x:=λx k hk hd=>(hfoot k hk).2.2.2 x zo;have hXt:∀t k,k<ops.size->decide (t∈dst k)=false->(FR (k+1))[t]?=(FR k)[t]?:=by
  intro t k hk hd;obtain⟨o,_,_,d1,_,q⟩:=hop k hk;have hnd:t∉a2D o:=by rw[<-d1];grind
  rcases q with⟨_,v,_,e⟩|⟨_,_,_,_,_,e⟩<;>rw[e,a2S,vN (λq=>hnd q.1)]
 have hlenF:∀k,k<=ops.size->(FR k).length=fr.length:=by intro k;induction k with|zero=>simp_all|succ k ih=>intro hk;obtain⟨o,_,_,_,_,q⟩:=hop k zy;rcases q with⟨_,v,_,e⟩|⟨_,_,_,_,_,e⟩<;>rw[e,a3Z,ih zy]
 refine wp_region_any hM ?_;have key:∀(fuel:Nat) (listed:Array Bool) (a1:Act) (w1:World) (U:List Nat),listed.size=ops.size->U.length=fuel->U.Nodup->(∀j,j<ops.size->(listed.getD j false=false↔j∈U))->(∀j,j∈U->j<ops.size)->(∃K1 hD fD,Inv B0 w0 T K s'.c ops.size fr.length H FR dw dst ps a.defers (λj=>listed.getD j false) a1 w1 K1 hD fD)->wpAny P .any ops Q fuel listed a1 w1:=by
  intro fuel;have hend:∀(listed:Array Bool) (a1:Act) (w1:World),(∀j,j<ops.size->listed.getD j false=true)->(∃K1 hD fD,Inv B0 w0 T K s'.c ops.size fr.length H FR dw dst ps a.defers (λj=>listed.getD j false) a1 w1 K1 hD fD)->Q .normal a1 w1:=by
   intro listed a1 w1 hall ⟨K1,hD,fD,I⟩;have e1:∀x,s'.h.get x=hD.get x:=λx=>by rw[I.heap x,c1f (hXh x) hall,c5]
   have e2:fD=fr':=by apply uj;intro t;rw[I.tmps t,c1f (hXt t) hall,c6]
   subst e2;exact hq a1 w1 K1 ⟨I.le,I.far,I.sim.congr e1⟩ I.vrl I.defs
  have hgetD:∀(listed:Array Bool) i,listed.size=ops.size->i<ops.size->listed.getD i true=listed.getD i false:=zn;induction fuel with
   |zero=>intro listed a1 w1 U hsz hU hnd hUU hUn hI;have hall:∀j,j<ops.size->listed.getD j false=true:=zn;refine⟨?_,hend listed a1 w1 hall hI⟩;grind[Region.ready,List.filter_eq_nil_iff]|succ fuel ih=>
    intro listed a1 w1 U hsz hU hnd hUU hUn hI;refine⟨λhr=>?_,λi hi=>?_⟩;exfalso;obtain⟨u,hu,hmin⟩:∃u,u∈U/\∀x,x∈U->u<=x:=by
     have hne:∃x,x∈U:=by cases U<;>first|rfl|grind[List.mem_cons_self]
     obtain⟨x,hx⟩:=hne;have:∀m x,x<=m->x∈U->∃u,u∈U/\∀x,x∈U->u<=x:=by intro m;induction m with|zero=>grind|succ m ihm=>intro x h1 h2;by_cases hh:∃y,y∈U/\y<=m;obtain⟨y,y1,y2⟩:=hh;exact ihm y y2 y1;grind
     exact this x x (wQ _) hx
    have hun:=hUn u hu;obtain⟨o,o1,o2,_,o3,_⟩:=hop u hun;have hmem:u∈Region.ready .any ops listed:=by unfold Region.ready;rw[List.mem_filter];refine⟨zo,?_⟩;rw[hgetD listed u hsz hun,(hUU u hun).2 hu,o1];simp only[ug,uL,pX,Option.getD_some];rw[qE];grind
    rw[hr]at hmem;cases hmem;obtain⟨K1,hD,fD,I⟩:=hI;unfold Region.ready at hi;rw[List.mem_filter]at hi;have hin:i<ops.size:=zn;obtain⟨o,o1,o2,o3,o4,o5⟩:=hop i hin;have hi2:=hi.2;rw[hgetD listed i hsz hin,o1]at hi2;simp only[pX,Option.getD_some,wK,tZ]at hi2;obtain⟨hnl,hed⟩:=hi2;rw[qE]at hed;let D:Nat->Bool:=λj=>listed.getD j false;let D':Nat->Bool:=λj=>(listed.setIfInBounds i true).getD j false;have hD':∀j,D' j=if j=i then true else D j:=by intro j;show(listed.setIfInBounds i true).getD j false=_;by_cases hj:j=i;simp_all;rw[vN hj];show _=listed.getD j false;simp only[qx,ou];rw[vN (λq=>hj q.symm)]
    have hpsD:∀p,p∈ps i->D p=true:=by
     intro p hp;obtain⟨e,he,hb,hpe⟩:=(hps i _ o4).2.1 p hp;have he1:D e.on=true:=by have:=hed e zo;rw[hb]at this;grind
     have hlt:=(hps i _ o4).1 e he hb;rcases hpe with rfl|hpe;exact he1;exact I.closed e.on zy he1 p hpe
    have hside:∀j,j<ops.size->j≠i->(¬(j<i/\j∉ps i))/\(¬(i<j/\D j=true/\i∉ps j))->True:=λ_ _ _ _=>trivial;have hagreeH:∀x,(x∈dr i\/x∈dw i)->∀j,j<ops.size->x∈dw j->(D j=true↔j<i):=by intro x hx j hj hxj;rcases oK j i with hlt|rfl|hgt;grind;grind;refine⟨λq=>?_,λq=>zy⟩;rcases hclash i j hgt hj with q'|⟨q1,q2,q3,_⟩;have:=I.closed j hj q i q';have hf:D i=false:=hnl;rw[show D i=true from this]at hf;cases hf;grind
    have hagreeT:∀t,(t∈a3o ops.toList o\/t∈dst i)->∀j,j<ops.size->t∈dst j->(D j=true↔j<i):=by intro t ht j hj htj;rcases oK j i with hlt|rfl|hgt;grind;grind;refine⟨λq=>?_,λq=>zy⟩;rcases hclash i j hgt hj with q'|⟨_,_,_,q4⟩;have:=I.closed j hj q i q';have hf:D i=false:=hnl;rw[show D i=true from this]at hf;cases hf;grind
    have hH:∀x,(x∈dr i\/x∈dw i)->hD.get x=(H i).get x:=λx hx=>by rw[I.heap x];exact b2d (hXh x) i (λj hj hw=>hagreeH x hx j hj zo) zy
    have hFt:∀t,(t∈a3o ops.toList o\/t∈dst i)->fD[t]?=(FR i)[t]?:=λt ht=>by rw[I.tmps t];exact b2d (hXt t) i (λj hj hw=>hagreeT t ht j hj zo) zy
    obtain⟨hstep,hwant⟩:=b4t (P:=P) (T:=T) (call:=call) (ops:=ops.toList) (o:=o) (fr:=fD) (fr2:=FR i) (λt ht=>a5D (hFt t (Or.inl ht)));have hnext:∀(v:Value) (hD2:Trie VObj) (K2:KM) (v':Value) (w2:World),FR (i+1)=Q6 (FR i) o v->(∀x,x∈dw i->hD2.get x=(H (i+1)).get x)->(∀x,x∉dw i->hD2.get x=hD.get x)->Sim B0 w0 K2 hD2 w2->K1.le K2->(∀x g,s'.c<=x->K2 x g=K1 x g)->VR K2 v' v->wpAny P .any ops Q fuel (listed.setIfInBounds i true) (a1.put o.dst v') w2:=by
     intro v hD2 K2 v' w2 e1 e2 e3 e4 e5 e6 e7;refine ih _ _ _ (U.erase i) (by simp[hsz]) ?_ (hnd.erase i) (λj hj=>?_) (λj hj=>hUn j (List.mem_of_mem_erase hj)) ⟨K2,hD2,Q6 fD o v,⟨λx=>?_,by rw[a3Z];exact I.flen,λt=>?_,e4,a8R (I.vrl.mono e5) o e7,I.gk.mono e5,KM.le_trans I.le e5,λx g hx=>(e6 x g hx).trans (I.far x g hx),by rw[a2T];exact I.defs,λj hj hd p hp=>?_⟩⟩;have:i∈U:=(hUU i hin).1 hnl;rw[List.length_erase_of_mem this,hU];rfl;have:=hD' j;show D' j=false↔_;rw[this,hnd.mem_erase_iff];by_cases hji:j=i;grind;grind;show _=a6O _ D' _ _;by_cases hx:x∈dw i;rw[e2 x hx,c4F (n:=ops.size) i hin (by rw[hD' i,vH rfl]) zo (λj h1 h2 h3=>?_)];rw[hD' j,vN zy]at h3;grind;rw[e3 x hx,I.heap x];refine(c1e λj hj hw=>?_).symm;rw[hD' j,vN (λq=>hx zo)];show _=a6O _ D' _ _;by_cases ht:t∈dst i;rw[c4F (n:=ops.size) i hin (by rw[hD' i,vH rfl]) zo (λj h1 h2 h3=>?_)];rw[e1,a2S,a2S,hFt t (Or.inr ht),I.flen,hlenF i zy];rw[hD' j,vN zy]at h3;grind;rw[a2S,vN (λq=>ht (by rw[o3];exact q.1)),I.tmps t];refine(c1e λj hj hw=>?_).symm;rw[hD' j,vN (λq=>ht zo)];have hdj:D' j=true:=hd;show D' p=true;rw[hD' j]at hdj;rw[hD' p];by_cases hji:j=i;subst hji;have:=hpsD p hp;split<;>first|rfl|exact this
     rw[vN hji]at hdj;have:=I.closed j hj hdj p hp;split<;>first|rfl|exact this
    unfold wpOp;rw[o1];dsimp only;rw[a9K ops a1.tmps I.vrl,hwant];rcases o5 with⟨b1,v,b2,b3⟩|⟨b1,b2,b3,b4,b5,b6⟩;rw[b1,vH rfl];left;obtain⟨r0,w0',e1,e2,e3,e4,e5,e6,e7,e8⟩:=Fr.stepOp P T hF _ _ _ _ _ b2;simp only[wH]at e1 e2;subst e1 e2;obtain⟨h2',q1,q2,q3⟩:=e8 hD [] [] (λx hx _=>hH x hx);rw[<-hstep]at q1;have hfree:a0B K1 ⟨C i,hD,[],[]⟩ ⟨C (i+1),h2',dr i++[],dw i++[]⟩:=by intro x hx1 hx2;show hD.get x=none;have hx1:C i<=x:=hx1;have hx2:x<C (i+1):=hx2;rw[I.heap x,b2Q (λj hj hd=>?_)];show(H 0).get x=none;rw[c2];have h0:=hmono 0 i (vC _) zy;have hn:=hmono (i+1) ops.size zy (wQ _);exact F x (by rw[<-c1];omega) (by rw[<-c4];omega);grind
    refine b0V hT hC q1 I.sim hfree I.vrl I.gk λv' w2 K2 st r=>?_;refine hnext v h2' K2 v' w2 b3 q2 q3 st.sim st.le (λx g hx=>st.far x g ?_) r;have hn:=hmono (i+1) ops.size zy (wQ _);grind;rw[b1];simp only[uo,tO];exact hnext undef hD K1 undef w1 b6 (λx hx=>by rw[b3]at hx;cases hx) (λ_ _=>rfl) I.sim (KM.le_refl _) (λ_ _ _=>rfl) (VR.undef K1)
 refine key ops.size (Array.replicate ops.size false) a _ (List.range ops.size) zq zq List.nodup_range (λj hj=>by simp[hj]) (λj hj=>zo) ?_;refine⟨K,s.h,fr,⟨λx=>?_,rfl,λt=>?_,a6q S (Grew.drew w),hf,hg,KM.le_refl K,λ_ _ _=>rfl,rfl,λj hj hd=>?_⟩⟩;rw[b2Q (λj hj hd=>by simp[hj]at hd),c2];rw[b2Q (λj hj hd=>by simp[hj]at hd),c3];simp_all
end
end Go.V
end
