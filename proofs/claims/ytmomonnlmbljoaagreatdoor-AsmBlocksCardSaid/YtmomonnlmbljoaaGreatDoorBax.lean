import Derived.Test.YtmomonnlmbljoaaGreatDoorBak
import Derived.Test.YtmomonnlmbljoaaGreatDoorBat
import Derived.Test.YtmomonnlmbljoaaGreatDoorBau
import Derived.Test.YtmomonnlmbljoaaGreatDoorBaw
set_option maxRecDepth 1000000
set_option maxHeartbeats 4000000
set_option linter.unusedVariables false
set_option linter.unusedSimpArgs false
section
namespace Go.Proofs.YtmomonnlmbljoaaGreatDoor
open Go.V Go.RowKit Go.Shelf Go.Proofs
variable {mL:Int}
attribute [local congr] y7 x9 A8 A7 D5 z8 E5
def a4P (s:List UInt8):Value:=.string ⟨⟨s⟩⟩
noncomputable def a1E (vs:List Value):Option (List (List UInt8)):=List.rec (motive:=λ_=>Option (List (List UInt8))) (some []) (λv _ ih=>match v with
 |.string s=>match ih with|some l=>some (s.data.toList::l)|none=>none
 |_=>none) vs
theorem c8B (l):a1E (l.map a4P)=some l:=by induction l with|nil=>rfl|cons x l ih=>show(match a1E (l.map a4P)with|some l=>some (x::l)|none=>none)=_;rw[ih]
theorem b2y:∀{vs} {l},a1E vs=some l->vs=l.map a4P:=by
 intro vs;induction vs with
  |nil=>intro l h;cases h;rfl|cons v vs ih=>
   intro l h;cases v with
    |string s=>have h':(match a1E vs with|some l=>some (s.data.toList::l)|none=>none)=some l:=h;cases q:a1E vs with|none=>rw[q]at h';cases h'|some l'=>rw[q]at h';cases h';rw[ih q];rfl
    |_=>cases h
def SlU (U:Nat->Prop)(h:Trie VObj)(v:Sl)(vs:List Value):Prop:=v.n=vs.length/\(vs=[]\/∃b o g cs cur ro,v.a=some ⟨b,o,some g⟩/\v.e=1/\U b/\h.get b=some (.cells cs cur ro)/\y8 g (H9 cs o) vs.length=some vs)
theorem SlU.mono {U U' h h' v vs}(H:SlU U h v vs)(hu:∀i,U i->U' i/\h'.get i=h.get i):SlU U' h' v vs:=by obtain⟨h0,h1|⟨b,o,g,cs,cur,ro,h1,h2,h3,h4,h5⟩⟩:=H;exact⟨h0,Or.inl h1⟩;exact⟨h0,Or.inr ⟨b,o,g,cs,cur,ro,h1,h2,(hu _ h3).1,(hu _ h3).2.trans h4,h5⟩⟩
theorem SlU.of {c h a n e vs}(H:K8 c h (.slice a n e) vs):SlU (λi=>i<c) h ⟨a,n,e⟩ vs:=by obtain⟨a',e',h0,h1⟩:=H;cases h0;exact⟨rfl,h1⟩
structure LabAt (U:Nat→Prop) (h:Trie VObj) (v:Value) (L:List (List UInt8)):Prop where
 ex:∃ sb so g cs cur ro m lv,v=.pointer (some ⟨sb,so,some g⟩)∧U sb∧h.get sb=some (.cells cs cur ro)∧y8 g (H9 cs so) 2=some [.map (some m),.slice (Sl.a lv) lv.n lv.e]∧SlU U h lv (L.map a4P)
 len:L.length<900000
theorem LabAt.mono {U U' h h' v L}(H:LabAt U h v L)(hu:∀i,U i->U' i/\h'.get i=h.get i):LabAt U' h' v L:=by obtain⟨⟨sb,so,g,cs,cur,ro,m,lv,rfl,h1,h2,h3,h4⟩,h5⟩:=H;exact⟨⟨sb,so,g,cs,cur,ro,m,lv,rfl,(hu _ h1).1,(hu _ h1).2.trans h2,h3,h4.mono hu⟩,h5⟩
noncomputable def b2o (v:Value):M (List (List UInt8)):=a0G v λa=>M.bind (loadN a 2) λvs=>match vs with|[.map (some _),.slice la ln le]=>M.bind (b7r (.slice la ln le)) λws=>M.obind (a1E ws) λL=>M.guard (Nat.blt (x8 L) 900000) (M.pure L)|_=>M.fail
theorem c9q {v s s' L}(h:b2o v s=some (L,s')):LabAt (λi=>i<s.c) s.h v L/\s'.c=s.c/\s'.h=s.h:=by unfold b2o at h;obtain⟨a,rfl,g1⟩:=a2U h;obtain⟨vs,s1,h1,g2⟩:=C8 g1;obtain⟨sb,so,g,cs,cur,ro,rfl,a1,a2,a3,a4,a5⟩:=b2k h1;split at g2;rename_i m la ln le;obtain⟨ws,s2,h2,g3⟩:=C8 g2;obtain⟨b1,b2,b3⟩:=c1G h2;obtain⟨L',hL,g4⟩:=G5 g3;obtain⟨g5,g6⟩:=G9 g4;obtain⟨rfl,rfl⟩:=q9 g6;rw[b2y hL]at b1;refine⟨⟨⟨sb,so,g,cs,cur,ro,m,⟨la,ln,le⟩,rfl,a1,a2,a3,?_⟩,by rw[F9]at g5;simpa using g5⟩,zy,by rw[b3,a5]⟩;have:=SlU.of b1;rw[a4,a5]at this;exact this;cases g2
noncomputable def a6v (T:List UInt8):List (List UInt8)->Nat->Option Nat|[],_=>none|x::t,i=>bcase (beqBytes x T) (some i) (a6v T t (i+1))
noncomputable def b7K (L:List (List UInt8))(T:List UInt8):Value:=match a6v T L.reverse 0 with|some n=>.tuple ⟨[.int .i64 (.ofNat n),.int .i64 (.ofNat 0)]⟩|none=>.tuple ⟨[.int .i64 (.ofNat 0),.int .i64 (.ofNat 24)]⟩
noncomputable def b5t (L:List (List UInt8))(T:List UInt8):Option Value:=bcase (a0y T [36]) (some (b7K L T)) (bcase (Nat.blt (x8 T) 900000) (some (a6K T)) none)
noncomputable def b5o (bs:List Value):M Value:=match bs with|[v,.string s]=>M.bind (b2o v) λL=>M.lift (b5t L s.data.toList)|_=>M.fail
theorem d7x (bs):Fr (b5o bs):=by unfold b5o;split;refine Fr.bind ?_ λ_=>Fr.lift _;unfold b2o;refine Fr.asPtr _ λa=>Fr.bind (Fr.loadN _ _) λvs=>?_;split;exact Fr.bind (Fr.rdSl _) λ_=>Fr.obind _ λ_=>Fr.guard _ (Fr.pure _);exact Fr.fail;exact Fr.fail
theorem c6r (L T):K9 8 (b7K L T)=true:=by unfold b7K;cases a6v T L.reverse 0<;>rfl
theorem d9I {L:List (List UInt8)}{i x}(h:L.reverse[i]?=some x):L[L.length-1-i]?=some x:=by have hi:=(wM.1 h).1;rw[uW]at hi;rw[List.getElem?_reverse hi]at h;exact h
theorem d3E (N call T)(L:List (List UInt8))(hl:L.length<900000)(c h sb so sg css curs ros lv)(m:Nat)(hs1:sb<c)(hs2:h.get sb=some (.cells css curs ros))(hs3:y8 sg (H9 css (so+1)) 1=some [.slice lv.a lv.n lv.e])(H:SlU (λi=>i<c) h lv (L.map a4P)):∀(t) (i k) (g0 g1 g2 g3 g4 g5 g6 g7 g8 g9 g10 g11 g12 g13 g14 g15 g16 g17 g18 g19 g20 g21 g22) (r w),L.reverse.drop i=t->t.length<k->l9 (go (U4 (d4a o9 N call (.int .i64 (.ofNat L.length)) (.pointer (some ⟨sb,so,some sg⟩)) (.string ⟨⟨T⟩⟩)) k [g0,g1,g2,g3,g4,g5,g6,g7,g8,g9,g10,g11,g12,g13,g14,g15,g16,g17,g18,g19,g20,g21,g22,.int .i64 (.ofNat i)]) ⟨c,h,r,w⟩) λx s=>s.c=c/\s.h=h/\((a6v T t i=none/\x.1=.exit 0)\/∃n,a6v T t i=some n/\x.1=.ret/\C9 x.2 20=.int .i64 (.ofNat n)/\C9 x.2 21=.int .i64 (.ofNat 0)):=by
 intro t;induction t with
  |nil=>
   intro i k g0 g1 g2 g3 g4 g5 g6 g7 g8 g9 g10 g11 g12 g13 g14 g15 g16 g17 g18 g19 g20 g21 g22 r w hd hk;obtain⟨k,rfl⟩:∃m,k=m+1:=⟨k-1,zU⟩;have hi:decide (i<L.length)=false:=by have:L.length<=i:=yl;rw[vX];omega
   simp(disch:=first|exact dz|fail)only[Y8,L32,dlt,hi,bY];exact l9.done ⟨rfl,rfl,Or.inl ⟨rfl,rfl⟩⟩|cons x t ih=>
   intro i k g0 g1 g2 g3 g4 g5 g6 g7 g8 g9 g10 g11 g12 g13 g14 g15 g16 g17 g18 g19 g20 g21 g22 r w hd hk;obtain⟨k,rfl⟩:∃m,k=m+1:=⟨k-1,zU⟩;have hil:i<L.length:=zJ;have hi:decide (i<L.length)=true:=by rw[vZ];exact hil
   have hq:L.reverse[i]?=some x:=zF;have hd':L.reverse.drop (i+1)=t:=zI;have hx:=d9I hq;have hinc:=J6 i zy;obtain⟨hn,hor⟩:=H;rcases hor with h0|⟨b,o,g,cs,cur,ro,ha,he,hb,hg,ht⟩;have:L=[]:=by simpa using h0
   subst this;simp at hil;obtain⟨la,ln,le⟩:=lv;simp only at hn ha he;subst ha;subst he;rw[wF]at hn;subst hn;have e1:Q0 .i64 (Int.ofNat L.length-Int.ofNat 1)=Int.ofNat (L.length-1):=by rw[show Int.ofNat L.length-Int.ofNat 1=Int.ofNat (L.length-1) by simp only[vz];omega];exact b5v _ zy
   have e2:Q0 .i64 (Int.ofNat (L.length-1)-Int.ofNat i)=Int.ofNat (L.length-1-i):=by rw[show Int.ofNat (L.length-1)-Int.ofNat i=Int.ofNat (L.length-1-i) by simp only[vz];omega];exact b5v _ zy
   have e3:=a1C 1 (L.length-1-i) L.length .i64 b o (some g) zy zu;have e4:y8 g (H9 cs (o+(L.length-1-i)*1)) 1=some [.string ⟨⟨x⟩⟩]:=by rw[a5a,uu];exact a2I ht (L.length-1-i) _ (by rw[vM,hx];rfl)
   generalize hj:L.length-1-i=j at*;generalize hj2:o+j*1=o2 at*;have hlen:=S9 (some ⟨b,o,some g⟩) L.length 1;cases q:beqBytes x T with|true=>simp(disch:=first|exact dz|fail)only[Y8,L32,F32,dlt,hi,hs2,hs3,hlen,e1,e2,e3,e4,hg,q,bY];exact l9.done ⟨rfl,rfl,Or.inr ⟨i,by show bcase (beqBytes x T) _ _=_;rw[q];rfl,rfl,rfl,rfl⟩⟩|false=>simp(disch:=first|exact dz|fail)only[Y8,L32,F32,dlt,hi,hs2,hs3,hlen,e1,e2,e3,e4,hg,q,hinc,bY];rw[show a6v T (x::t) i=a6v T t (i+1) by show bcase (beqBytes x T) _ _=_;rw[q];rfl];exact ih (i+1) k _ _ _ _ _ _ _ _ _ _ _ _ _ _ _ _ _ _ _ _ _ _ _ _ _ hd' zU
theorem n32 {c c0 h v L}(H:LabAt (λi=>i<c0) h v L)(hc:c0<=c){T y}(hy:b5t L T=some y)(r w):l9 (go (c6M o9 NN (o8 ps4 3) v (.string ⟨⟨T⟩⟩)) ⟨c,h,r,w⟩) λx s=>x=.ret y/\∀i,i<c->s.h.get i=h.get i:=by
 obtain⟨⟨sb,so,g,cs,cur,ro,m,lv,rfl,h1,h2,h3,h4⟩,h5⟩:=H.mono (U':=λi=>i<c) (h':=h) (λi hi=>⟨wD hi hc,rfl⟩);have a1:sb<c:=h1;have t1:y8 g (H9 cs so) 1=some [.map (some m)]:=a2I h3 0 _ rfl▸by rw[a0i]
 have t2:y8 g (H9 cs (so+1)) 1=some [.slice lv.a lv.n lv.e]:=by rw[a5a];exact a2I h3 1 _ rfl
 have hn:lv.n=L.length:=by rw[h4.1,wF]
 have hlen:=S9 lv.a L.length lv.e;unfold b5t at hy;cases p1:a0y T [36]with
  |true=>rw[p1]at hy;cases hy;simp(disch:=first|exact dz|fail)only[F32,b6h,F79,b6R,b3r,b3F,h2,t1,t2,p1,hn,hlen,bY];have hlp:=d3E NN (o8 ps4 3) T L h5 c h sb so g cs cur ro lv m a1 h2 t2 h4 L.reverse 0 NN undef undef undef undef undef undef undef undef undef undef undef undef undef undef undef undef undef undef undef undef (.int .i64 (.ofNat 0)) (.int .i64 (.ofNat 0)) undef;refine l9.bindS (hlp _ _ rfl (by rw[uW];exact sw h5 zu)) λx s hq=>?_;obtain⟨x1,x2⟩:=x;obtain⟨c',h',r',w'⟩:=s;obtain⟨rfl,rfl,⟨e1,rfl⟩|⟨n,e1,rfl,e2,e3⟩⟩:=hq;simp(disch:=first|exact dz|fail)only[bY];exact l9.done ⟨by unfold b7K;rw[e1],λi hi=>rfl⟩;simp only at e2 e3;simp(disch:=first|exact dz|fail)only[e2,e3,bY];exact l9.done ⟨by unfold b7K;rw[e1],λi hi=>rfl⟩|false=>
   rw[p1]at hy;have hy':bcase (Nat.blt (x8 T) 900000) (some (a6K T)) none=some y:=hy;cases q2:Nat.blt (x8 T) 900000 with
    |false=>rw[q2]at hy';cases hy'|true=>
     rw[q2]at hy';cases hy';have p2:T.length<900000:=by rw[F9]at q2;simpa using q2
     simp(disch:=first|exact dz|fail)only[F32,b6h,F79,b6R,d4Y,b3r,b3F,h2,t1,p1,c2l,bY];exact l9.done ⟨rfl,λi hi=>rfl⟩
theorem e6d:J9 Tryz.prog tab (I6 mL) 32 b5o:=a7u V5 N7 (pL4 (mL:=mL)).e (pL4 (mL:=mL)).s Tryz.func32 zw rfl d7x λbs s y s1 hq=>by
 unfold b5o at hq;split at hq;rename_i v t;obtain⟨L,s2,h1,h2⟩:=C8 hq;obtain⟨h3,rfl⟩:=a3i h2;obtain⟨h4,h5,h6⟩:=c9q h1;refine⟨?_,h5,h6,λc hc=>⟨4,?_⟩⟩;unfold b5t at h3;cases qp:a0y t.data.toList [36]with|true=>rw[qp]at h3;cases h3;exact c6r _ _|false=>rw[qp]at h3;cases q:Nat.blt (x8 t.data.toList) 900000 with|true=>have h3':bcase (Nat.blt (x8 t.data.toList) 900000) (some (a6K t.data.toList)) none=some y:=h3;rw[q]at h3';cases h3';rfl|false=>have h3':bcase (Nat.blt (x8 t.data.toList) 900000) (some (a6K t.data.toList)) none=some y:=h3;rw[q]at h3';cases h3'
 rw[a2h (q:=c6M) (N:=NN) zw 3];exact n32 h4 hc h3 _ _;cases hq
noncomputable def b4N (a:Option Addr)(n e:Nat):M (Option (Nat×List UInt8)):=match n with|0=>M.pure none|_+1=>M.guard (Nat.beq e 4) (M.obind a λa=>M.bind (loadN a 4) λvs=>match vs with|[.int .i64 (.ofNat k),_,.string s,_]=>M.pure (some (k,s.data.toList))|_=>M.fail)
theorem Fr.rdHd (a:Option Addr)(n e:Nat):Fr (b4N a n e):=by unfold Proofs.YtmomonnlmbljoaaGreatDoor.b4N;split;exact Fr.pure _;refine Fr.guard _ (Fr.obind _ λa=>Fr.bind (Fr.loadN _ _) λvs=>?_);split;exact Fr.pure _;exact Fr.fail
def b3z (U:Nat->Prop)(h:Trie VObj)(a:Option Addr)(n e:Nat)(o:Option (Nat×List UInt8)):Prop:=(n=0/\o=none)\/∃m b off g cs cur ro k x s y,n=m+1/\e=4/\a=some ⟨b,off,some g⟩/\U b/\h.get b=some (.cells cs cur ro)/\y8 g (H9 cs off) 4=some [.int .i64 (.ofNat k),x,.string ⟨⟨s⟩⟩,y]/\o=some (k,s)
theorem b3z.mono {U U' h h' a n e o}(H:b3z U h a n e o)(hu:∀i,U i->U' i/\h'.get i=h.get i):b3z U' h' a n e o:=by rcases H with h1|⟨m,b,off,g,cs,cur,ro,k,x,s,y,h1,h2,h3,h4,h5,h6,h7⟩;exact Or.inl h1;exact Or.inr ⟨m,b,off,g,cs,cur,ro,k,x,s,y,h1,h2,h3,(hu _ h4).1,(hu _ h4).2.trans h5,h6,h7⟩
theorem d3h {a n e s s' o}(h:b4N a n e s=some (o,s')):b3z (λi=>i<s.c) s.h a n e o/\s'.c=s.c/\s'.h=s.h:=by unfold b4N at h;split at h;obtain⟨rfl,rfl⟩:=q9 h;exact⟨Or.inl ⟨rfl,rfl⟩,rfl,rfl⟩;rename_i m;obtain⟨h1,h2⟩:=G9 h;obtain⟨ad,ha,h3⟩:=G5 h2;obtain⟨vs,s1,h4,h5⟩:=C8 h3;obtain⟨sb,so,g,cs,cur,ro,rfl,a1,a2,a3,a4,a5⟩:=b2k h4;split at h5;rename_i k x t y;obtain⟨rfl,rfl⟩:=q9 h5;exact⟨Or.inr ⟨m,sb,so,g,cs,cur,ro,k,x,t.data.toList,y,rfl,wR h1,ha,a1,a2,a3,rfl⟩,a4,a5⟩;cases h5
noncomputable def a0A (k:Nat)(o:Option (Nat×List UInt8))(W:List UInt8):Bool:=match o with|none=>false|some x=>decide (k=0)&&(decide (x.1=2)&&beqBytes x.2 W)
noncomputable def XBg (bs:List Value):M Value:=match bs with|[.agg ⟨[.int .i64 (.ofNat k),.int .i64 (.ofNat _),.string _,.slice a n e]⟩,.string w]=>M.bind (b4N a n e) λo=>M.pure (.bool (a0A k o w.data.toList))|_=>M.fail
theorem e0Q (bs):Fr (XBg bs):=by unfold XBg;split;exact Fr.bind (Fr.rdHd _ _ _) λ_=>Fr.pure _;exact Fr.fail
theorem e9B (N call k p T W a n e c c0 h o)(H:b3z (λi=>i<c0) h a n e o)(hc:c0<=c)(r w):l9 (go (b9m o9 N call (.agg ⟨[.int .i64 (.ofNat k),.int .i64 (.ofNat p),.string ⟨⟨T⟩⟩,.slice a n e]⟩) (.string ⟨⟨W⟩⟩)) ⟨c,h,r,w⟩) λx s=>x=.ret (.bool (a0A k o W))/\∀i,i<c->s.h.get i=h.get i:=by
 have hf:∀i,i<c->i≠c:=λi hi=>zy;have hlen:=S9 a n e;rcases H with⟨rfl,rfl⟩|⟨m,b,off,g,cs,cur,ro,k1,x,s,y,rfl,rfl,rfl,h4,h5,h6,rfl⟩;have d0:decide (Int.ofNat 0<Int.ofNat 0)=false:=rfl;cases q1:decide (k=0)with|false=>simp(disch:=first|exact dz|fail)only[c2f,Y1,q1,bY];exact l9.done ⟨rfl,λi hi=>yn⟩|true=>simp(disch:=first|exact dz|fail)only[c2f,Y1,q1,hlen,d0,bY];exact l9.done ⟨rfl,λi hi=>yn⟩
 have d0:decide (Int.ofNat 0<Int.ofNat (m+1))=true:=by simp only[vZ,vz];omega
 have hb:b<c:=zy;have hb2:b≠c:=zy;have e3:=a1C 4 0 (m+1) .i64 b off (some g) zy zu;rw[tT,vB]at e3;have t0:y8 g (H9 cs off) 1=some [.int .i64 (.ofNat k1)]:=a2I h6 0 _ rfl▸by rw[a0i]
 have t2:y8 g (H9 cs (off+2)) 1=some [.string ⟨⟨s⟩⟩]:=by rw[a5a];exact a2I h6 2 _ rfl
 unfold a0A;cases q1:decide (k=0)with|false=>simp(disch:=first|exact dz|fail)only[c2f,Y1,q1,bY];exact l9.done ⟨rfl,λi hi=>yn⟩|true=>cases q2:decide (k1=2)with|false=>simp(disch:=first|exact dz|fail)only[c2f,Y1,q1,q2,hlen,d0,e3,h5,t0,bY];exact l9.done ⟨rfl,λi hi=>yn⟩|true=>simp(disch:=first|exact dz|fail)only[c2f,Y1,q1,q2,hlen,d0,e3,h5,t0,t2,bY];exact l9.done ⟨rfl,λi hi=>yn⟩
theorem d9E:J9 Tryz.prog tab (I6 mL) 113 XBg:=a7u V5 N7 (pL4 (mL:=mL)).e (pL4 (mL:=mL)).s Tryz.func113 zw rfl e0Q λbs s y s1 hq=>by unfold XBg at hq;split at hq;rename_i k p t a n e w;obtain⟨o,s2,h1,h2⟩:=C8 hq;obtain⟨rfl,rfl⟩:=q9 h2;obtain⟨h4,h5,h6⟩:=d3h h1;refine⟨rfl,h5,h6,λc hc=>⟨2,?_⟩⟩;rw[a2h (q:=b9m) (N:=NN) zw 1];exact e9B _ _ k p t.data.toList w.data.toList a n e c s.c s.h o h4 hc _ _;cases hq
theorem a9v (w M m x)(hm:m<2^w):x&&&(2^w*M+m)=2^w*((x/2^w)&&&M)+((x%2^w)&&&m):=by have h0:0<2^w:=Nat.two_pow_pos w;rw[<-Nat.div_add_mod (x&&&(2^w*M+m)) (2^w),Nat.and_div_two_pow,Nat.and_mod_two_pow,Nat.mul_add_div h0,Nat.div_eq_of_lt hm,vB,Nat.mul_add_mod,uF hm]
def rp (m:Nat):Nat->Nat|0=>0|k+1=>256*rp m k+m
def a1 (k n:Nat):Nat:=((n/2)&&&rp 85 k)+(n&&&rp 85 k)
def a2 (k n:Nat):Nat:=((a1 k n/4)&&&rp 51 k)+(a1 k n&&&rp 51 k)
def a3 (k n:Nat):Nat:=(a2 k n/16+a2 k n)&&&rp 15 k
def b1 (b:Nat):Nat:=((b/2)&&&85)+(b&&&85)
def b2 (b:Nat):Nat:=((b1 b/4)&&&51)+(b1 b&&&51)
def b3 (b:Nat):Nat:=(b2 b/16+b2 b)&&&15
theorem a9r (p n)(h:J2 p (upN n)=true)(b)(hb:b<n):p b=true:=(M4 _ _).1 h b (uI.2 hb)
theorem e9J:J2 (λb=>(Nat.beq ((128+b/2)&&&85) ((b/2)&&&85))&&Nat.blt (b1 b) 171&&Nat.ble (b2 b) 68&&Nat.ble (b2 b%16) 4&&Nat.ble (b3 b) 8&&Nat.ble (b3 b) 8) (upN 256)=true:=zw
theorem e9N:J2 (λb=>J2 (λr=>Nat.beq ((64*r+b/4)&&&51) ((b/4)&&&51)) (upN 4)) (upN 256)=true:=zw
theorem e9A:J2 (λb=>J2 (λr=>Nat.beq ((16*r+(b2 b/16+b2 b))&&&15) (b3 b)) (upN 5)) (upN 256)=true:=zw
theorem a7a (b)(hb:b<256):((128+b/2)&&&85)=((b/2)&&&85)/\b1 b<171/\b2 b<=68/\b2 b%16<=4/\b3 b<=8:=by have q:=a9r _ _ e9J b hb;simp only[wK]at q;obtain⟨⟨⟨⟨⟨q1,q2⟩,q3⟩,q4⟩,q5⟩,_⟩:=q;exact⟨wR q1,by simpa[uh]using q2,vT q3,vT q4,vT q5⟩
theorem e9O (k a b)(hb:b<256):a1 (k+1) (256*a+b)=256*a1 k a+b1 b:=by
 unfold a1 b1;have e1:(256*a+b)/2/256=a/2:=zy;have e2:(256*a+b)/2%256=128*(a%2)+b/2:=zy;have e3:(256*a+b)/256=a:=zy;have e4:(256*a+b)%256=b:=zy;have s1:=a9v 8 (rp 85 k) 85 ((256*a+b)/2) zu;have s2:=a9v 8 (rp 85 k) 85 (256*a+b) zu;simp only[Nat.reducePow,e1,e2,e3,e4]at s1 s2;show((256*a+b)/2&&&(256*rp 85 k+85))+((256*a+b)&&&(256*rp 85 k+85))=_;rw[s1,s2];have:((128*(a%2)+b/2)&&&85)=((b/2)&&&85):=by rcases Nat.mod_two_eq_zero_or_one a with h|h;rw[h];simp;rw[h];exact(a7a b hb).1
 rw[this];omega
theorem e1I (k a b)(hb:b<256):a2 (k+1) (256*a+b)=256*a2 k a+b2 b:=by unfold a2 b2;rw[e9O k a b hb];have hb1:=(a7a b hb).2.1;generalize a1 k a=x at*;have e1:(256*x+b1 b)/4/256=x/4:=zy;have e2:(256*x+b1 b)/4%256=64*(x%4)+b1 b/4:=zy;have e3:(256*x+b1 b)/256=x:=zy;have e4:(256*x+b1 b)%256=b1 b:=zy;have s1:=a9v 8 (rp 51 k) 51 ((256*x+b1 b)/4) zu;have s2:=a9v 8 (rp 51 k) 51 (256*x+b1 b) zu;simp only[Nat.reducePow,e1,e2,e3,e4]at s1 s2;show((256*x+b1 b)/4&&&(256*rp 51 k+51))+((256*x+b1 b)&&&(256*rp 51 k+51))=_;rw[s1,s2];have:((64*(x%4)+b1 b/4)&&&51)=((b1 b/4)&&&51):=wR (a9r _ _ (a9r _ _ e9N (b1 b) zy) (x%4) zy);rw[this];omega
theorem d9D (k n)(hn:n<256^k):a2 k n%16<=4:=by
 cases k with
  |zero=>
   have:n=0:=by simp at hn;omega
   subst this;decide|succ k=>have e:n=256*(n/256)+n%256:=zy;rw[e,e1I k _ _ zy];have:=(a7a (n%256) zy).2.2.2.1;omega
theorem b3s (k a b)(ha:a<256^k)(hb:b<256):a3 (k+1) (256*a+b)=256*a3 k a+b3 b:=by have hl:=d9D k a ha;unfold a3;rw[e1I k a b hb];have hb2:=(a7a b hb).2.2.1;generalize a2 k a=x at*;have e1:((256*x+b2 b)/16+(256*x+b2 b))/256=x/16+x:=zy;have e2:((256*x+b2 b)/16+(256*x+b2 b))%256=16*(x%16)+(b2 b/16+b2 b):=zy;have s1:=a9v 8 (rp 15 k) 15 ((256*x+b2 b)/16+(256*x+b2 b)) zu;simp only[Nat.reducePow,e1,e2]at s1;show(((256*x+b2 b)/16+(256*x+b2 b))&&&(256*rp 15 k+15))=_;rw[s1,wR (a9r _ _ (a9r _ _ e9A b hb) (x%16) zy)]
theorem e9e (n)(hn:n<18446744073709551616):∃c0 c1 c2 c3 c4 c5 c6 c7,c0<256/\c1<256/\c2<256/\c3<256/\c4<256/\c5<256/\c6<256/\c7<256/\n=256*(256*(256*(256*(256*(256*(256*c7+c6)+c5)+c4)+c3)+c2)+c1)+c0/\a3 8 n=256*(256*(256*(256*(256*(256*(256*b3 c7+b3 c6)+b3 c5)+b3 c4)+b3 c3)+b3 c2)+b3 c1)+b3 c0:=by have md:=λm:Nat=>nP m (show 0<256 by decide);have dm:=λm:Nat=>(Nat.div_add_mod m 256).symm;have z:a3 0 0=0:=zu;have l0:n<256^8:=hn;have l1:n/256<256^7:=zy;generalize g1:n/256=n1 at*;have l2:n1/256<256^6:=zy;generalize g2:n1/256=n2 at*;have l3:n2/256<256^5:=zy;generalize g3:n2/256=n3 at*;have l4:n3/256<256^4:=zy;generalize g4:n3/256=n4 at*;have l5:n4/256<256^3:=zy;generalize g5:n4/256=n5 at*;have l6:n5/256<256^2:=zy;generalize g6:n5/256=n6 at*;have l7:n6/256<256^1:=zy;generalize g7:n6/256=n7 at*;have l8:n7<256:=zy;have e0:=dm n;have e1:=dm n1;have e2:=dm n2;have e3:=dm n3;have e4:=dm n4;have e5:=dm n5;have e6:=dm n6;rw[g1]at e0;rw[g2]at e1;rw[g3]at e2;rw[g4]at e3;rw[g5]at e4;rw[g6]at e5;rw[g7]at e6;have s7:=b3s 0 0 n7 zu l8;simp only[rZ,vV,z]at s7;have s6:=b3s 1 n7 (n6%256) l7 (md _);rw[<-e6,s7]at s6;have s5:=b3s 2 n6 (n5%256) l6 (md _);rw[<-e5,s6]at s5;have s4:=b3s 3 n5 (n4%256) l5 (md _);rw[<-e4,s5]at s4;have s3:=b3s 4 n4 (n3%256) l4 (md _);rw[<-e3,s4]at s3;have s2:=b3s 5 n3 (n2%256) l3 (md _);rw[<-e2,s3]at s2;have s1:=b3s 6 n2 (n1%256) l2 (md _);rw[<-e1,s2]at s1;have s0:=b3s 7 n1 (n%256) l1 (md _);rw[<-e0,s1]at s0;refine⟨n%256,n1%256,n2%256,n3%256,n4%256,n5%256,n6%256,n7,md _,md _,md _,md _,md _,md _,md _,l8,?_,s0⟩;rw[<-e6,<-e5,<-e4,<-e3,<-e2,<-e1,<-e0]
noncomputable def lg8 (b:Nat):Nat:=bcase (Nat.beq b 1) 0 (bcase (Nat.beq b 2) 1 (bcase (Nat.beq b 4) 2 (bcase (Nat.beq b 8) 3 (bcase (Nat.beq b 16) 4 (bcase (Nat.beq b 32) 5 (bcase (Nat.beq b 64) 6 7))))))
theorem e8x (b)(hb:b<256)(h:b3 b=0):b=0:=by have:J2 (λb=>!(Nat.beq (b3 b) 0)||Nat.beq b 0) (upN 256)=true:=zw;have:=a9r _ _ this b hb;rw[h]at this;simpa using this
theorem b3R (b)(hb:b<256)(h:b3 b=1):∃i,i<8/\b=2^i:=by have q:J2 (λb=>!(Nat.beq (b3 b) 1)||(Nat.beq b (2^lg8 b)&&Nat.blt (lg8 b) 8)) (upN 256)=true:=zw;have q2:=a9r _ _ q b hb;rw[h,R5,si,vJ,wK]at q2;exact⟨lg8 b,by simpa[uh]using q2.2,wR q2.1⟩
def pop (n:Nat):Nat:=
 let x:=a3 8 n
 let y:=x+x / 256
 let z:=y+y / 65536
 (z+z / 4294967296) % 128
theorem d6T (d0 d1 d2 d3 d4 d5 d6 d7)(h0:d0<=8)(h1:d1<=8)(h2:d2<=8)(h3:d3<=8)(h4:d4<=8)(h5:d5<=8)(h6:d6<=8)(h7:d7<=8)(x0 x1 x2 x3 x4 x5 x6 x7 y z)(e0:x0=256*x1+d0)(e1:x1=256*x2+d1)(e2:x2=256*x3+d2)(e3:x3=256*x4+d3)(e4:x4=256*x5+d4)(e5:x5=256*x6+d5)(e6:x6=256*x7+d6)(e7:x7=d7)(hy:y=x0+x0/256)(hz:z=y+y/65536):(z+z/4294967296)%128=d0+d1+d2+d3+d4+d5+d6+d7:=by
 have q1:x0/256=x1:=by rw[e0];omega
 rw[q1]at hy;have q2:y=65536*(x2+x3)+(256*(d1+d2)+(d0+d1)):=zy;have q3:y/65536=x2+x3:=by rw[q2];omega
 rw[q3]at hz;have q4:z=4294967296*(x4+x5+x6+x7)+(16777216*(d3+d4+d5+d6)+65536*(d2+d3+d4+d5)+256*(d1+d2+d3+d4)+(d0+d1+d2+d3)):=zy;have q5:z/4294967296=x4+x5+x6+x7:=by rw[q4,Nat.mul_add_div zu,Nat.div_eq_of_lt zy,vB]
 rw[q5];have q6:z+(x4+x5+x6+x7)=128*(2*(x1+x2+x3+x4+x5+x6+x7))+(d0+d1+d2+d3+d4+d5+d6+d7):=by rw[hz,hy,e0];clear q2 q3 q4 q5 hy hz q1 e0 h0 h1 h2 h3 h4 h5 h6 h7;omega
 have q7:d0+d1+d2+d3+d4+d5+d6+d7<128:=by clear q2 q3 q4 q5 hy hz q1 e0 e1 e2 e3 e4 e5 e6 e7 q6;omega
 rw[q6,Nat.mul_add_mod,uF q7]
theorem e7e (n)(hn:n<18446744073709551616)(h:pop n=1):∃i,i<64/\n=2^i:=by
 obtain⟨c0,c1,c2,c3,c4,c5,c6,c7,h0,h1,h2,h3,h4,h5,h6,h7,e,e3⟩:=e9e n hn;have hs:b3 c0+b3 c1+b3 c2+b3 c3+b3 c4+b3 c5+b3 c6+b3 c7=1:=by rw[<-d6T (b3 c0) (b3 c1) (b3 c2) (b3 c3) (b3 c4) (b3 c5) (b3 c6) (b3 c7) (a7a c0 h0).2.2.2.2 (a7a c1 h1).2.2.2.2 (a7a c2 h2).2.2.2.2 (a7a c3 h3).2.2.2.2 (a7a c4 h4).2.2.2.2 (a7a c5 h5).2.2.2.2 (a7a c6 h6).2.2.2.2 (a7a c7 h7).2.2.2.2 (a3 8 n) _ _ _ _ _ _ _ _ _ e3 rfl rfl rfl rfl rfl rfl rfl rfl rfl];exact h
 clear e3 h hn;generalize k0:b3 c0=d0 at*;generalize k1:b3 c1=d1 at*;generalize k2:b3 c2=d2 at*;generalize k3:b3 c3=d3 at*;generalize k4:b3 c4=d4 at*;generalize k5:b3 c5=d5 at*;generalize k6:b3 c6=d6 at*;generalize k7:b3 c7=d7 at*;have zz:=λ(b d:Nat) (hb:b<256) (k:b3 b=d) (h:d=0)=>e8x b hb (k.trans h);by_cases q0:d0=1;obtain⟨i,hi,hc⟩:=b3R c0 h0 (k0.trans q0);refine⟨i+0,zy,?_⟩;rw[e,zz c1 d1 h1 k1 zy,zz c2 d2 h2 k2 zy,zz c3 d3 h3 k3 zy,zz c4 d4 h4 k4 zy,zz c5 d5 h5 k5 zy,zz c6 d6 h6 k6 zy,zz c7 d7 h7 k7 zy,hc,ru];clear hs e;simp only[rZ,vV,vB,Nat.reducePow,uu];by_cases q1:d1=1;obtain⟨i,hi,hc⟩:=b3R c1 h1 (k1.trans q1);refine⟨i+8,zy,?_⟩;rw[e,zz c0 d0 h0 k0 zy,zz c2 d2 h2 k2 zy,zz c3 d3 h3 k3 zy,zz c4 d4 h4 k4 zy,zz c5 d5 h5 k5 zy,zz c6 d6 h6 k6 zy,zz c7 d7 h7 k7 zy,hc,ru];clear hs e;simp only[rZ,vV,vB,Nat.reducePow];omega;by_cases q2:d2=1;obtain⟨i,hi,hc⟩:=b3R c2 h2 (k2.trans q2);refine⟨i+16,zy,?_⟩;rw[e,zz c0 d0 h0 k0 zy,zz c1 d1 h1 k1 zy,zz c3 d3 h3 k3 zy,zz c4 d4 h4 k4 zy,zz c5 d5 h5 k5 zy,zz c6 d6 h6 k6 zy,zz c7 d7 h7 k7 zy,hc,ru];clear hs e;simp only[rZ,vV,vB,Nat.reducePow];omega;by_cases q3:d3=1;obtain⟨i,hi,hc⟩:=b3R c3 h3 (k3.trans q3);refine⟨i+24,zy,?_⟩;rw[e,zz c0 d0 h0 k0 zy,zz c1 d1 h1 k1 zy,zz c2 d2 h2 k2 zy,zz c4 d4 h4 k4 zy,zz c5 d5 h5 k5 zy,zz c6 d6 h6 k6 zy,zz c7 d7 h7 k7 zy,hc,ru];clear hs e;simp only[rZ,vV,vB,Nat.reducePow];omega;by_cases q4:d4=1;obtain⟨i,hi,hc⟩:=b3R c4 h4 (k4.trans q4);refine⟨i+32,zy,?_⟩;rw[e,zz c0 d0 h0 k0 zy,zz c1 d1 h1 k1 zy,zz c2 d2 h2 k2 zy,zz c3 d3 h3 k3 zy,zz c5 d5 h5 k5 zy,zz c6 d6 h6 k6 zy,zz c7 d7 h7 k7 zy,hc,ru];clear hs e;simp only[rZ,vV,vB,Nat.reducePow];omega;by_cases q5:d5=1;obtain⟨i,hi,hc⟩:=b3R c5 h5 (k5.trans q5);refine⟨i+40,zy,?_⟩;rw[e,zz c0 d0 h0 k0 zy,zz c1 d1 h1 k1 zy,zz c2 d2 h2 k2 zy,zz c3 d3 h3 k3 zy,zz c4 d4 h4 k4 zy,zz c6 d6 h6 k6 zy,zz c7 d7 h7 k7 zy,hc,ru];clear hs e;simp only[rZ,vV,vB,Nat.reducePow];omega;by_cases q6:d6=1;obtain⟨i,hi,hc⟩:=b3R c6 h6 (k6.trans q6);refine⟨i+48,zy,?_⟩;rw[e,zz c0 d0 h0 k0 zy,zz c1 d1 h1 k1 zy,zz c2 d2 h2 k2 zy,zz c3 d3 h3 k3 zy,zz c4 d4 h4 k4 zy,zz c5 d5 h5 k5 zy,zz c7 d7 h7 k7 zy,hc,ru];clear hs e;simp only[rZ,vV,vB,Nat.reducePow];omega;obtain⟨i,hi,hc⟩:=b3R c7 h7 (k7.trans zy);refine⟨i+56,zy,?_⟩;rw[e,zz c0 d0 h0 k0 zy,zz c1 d1 h1 k1 zy,zz c2 d2 h2 k2 zy,zz c3 d3 h3 k3 zy,zz c4 d4 h4 k4 zy,zz c5 d5 h5 k5 zy,zz c6 d6 h6 k6 zy,hc,ru];clear hs e;simp only[vB,Nat.reducePow];omega
theorem d6L (i)(hi:i<64):pop (2^i)=1:=by have:J2 (λi=>Nat.beq (pop (2^i)) 1) (upN 64)=true:=zw;exact wR (a9r _ _ this i hi)
theorem d4q (n)(h:n<18446744073709551616):Q0 .u64 (Int.ofNat n)=Int.ofNat n:=b0l .u64 n h
noncomputable def a6k (n:Nat):Option Nat:=List.rec (motive:=λ_=>Option Nat) none (λi _ ih=>bcase (Nat.beq n (2^i)) (some i) ih) (upN 64)
theorem b8p {n i}(h:a6k n=some i):i<64/\n=2^i:=by
 have key:∀l:List Nat,List.rec (motive:=λ_=>Option Nat) none (λi _ ih=>bcase (Nat.beq n (2^i)) (some i) ih) l=some i->i∈l/\n=2^i:=by intro l;induction l with|nil=>intro h;cases h|cons j l ih=>intro h;cases q:Nat.beq n (2^j)with|true=>have h':bcase (Nat.beq n (2^j)) (some j) (List.rec (motive:=λ_=>Option Nat) none (λi _ ih=>bcase (Nat.beq n (2^i)) (some i) ih) l)=some i:=h;rw[q]at h';cases h';exact⟨um,wR q⟩|false=>have h':bcase (Nat.beq n (2^j)) (some j) (List.rec (motive:=λ_=>Option Nat) none (λi _ ih=>bcase (Nat.beq n (2^i)) (some i) ih) l)=some i:=h;rw[q]at h';obtain⟨h1,h2⟩:=ih h';exact⟨vI _ h1,h2⟩
 obtain⟨h1,h2⟩:=key (upN 64) h;exact⟨uI.1 h1,h2⟩
theorem c8p {n}(h:a6k n=none)(i)(hi:i<64):n≠2^i:=by
 have key:∀l:List Nat,List.rec (motive:=λ_=>Option Nat) none (λi _ ih=>bcase (Nat.beq n (2^i)) (some i) ih) l=none->∀i∈l,n≠2^i:=by intro l;induction l with|nil=>intro _ i hi;cases hi|cons j l ih=>intro h i hi;have h':bcase (Nat.beq n (2^j)) (some j) (List.rec (motive:=λ_=>Option Nat) none (λi _ ih=>bcase (Nat.beq n (2^i)) (some i) ih) l)=none:=h;cases q:Nat.beq n (2^j)with|true=>rw[q]at h';cases h'|false=>rw[q]at h';rcases uw.1 hi with rfl|hm;intro e;rw[e,R5]at q;cases q;exact ih h' i hm
 exact key (upN 64) h i (uI.2 hi)
theorem d1C (n)(hn:n<18446744073709551616):decide (pop n=1)=(a6k n).isSome:=by cases h:a6k n with|some i=>obtain⟨h1,rfl⟩:=b8p h;rw[d6L i h1];rfl|none=>show _=false;rw[vX];intro e;obtain⟨i,h1,h2⟩:=e7e n hn e;exact c8p h i h1 h2
theorem b4j (p T t x y n m)(h:m<=64):a0M p T .shr t x y (.int .u64 (.ofNat n)) (.int .u64 (.ofNat m))=M.pure (.int .u64 (.ofNat (n/2^m))):=by
 rw[Q3 p T t x y .u64 .u64 (.ofNat n) m h];have e:(Int.ofNat n).fdiv (2^m)=Int.ofNat (n/2^m):=by have:=Int.ofNat_fdiv n (2^m);rw[Int.natCast_pow]at this;exact this.symm
 rw[e]
theorem e9s (p T t x y n m)(h1:n<18446744073709551616)(h2:m<9223372036854775808):a0M p T .and t x y (.int .i64 (.ofNat n)) (.int .i64 (.ofNat m))=M.pure (.int .i64 (.ofNat (Nat.land n m))):=by refine b1M p T rfl rfl ?_;show some (Value.int .i64 (Q0 .i64 (.ofNat (Nat.land (Nat.mod n (Nat.pow 2 64)) (Nat.mod m (Nat.pow 2 64))))))=_;rw[show Nat.mod n (Nat.pow 2 64)=n from uF h1,show Nat.mod m (Nat.pow 2 64)=m from uF (sw h2 zu),b5v (Nat.land n m) (uR (show Nat.land n m<=m from sU) h2)]
theorem b3X (p T t x y n m)(h:n+m<18446744073709551616):a0M p T .add t x y (.int .u64 (.ofNat n)) (.int .u64 (.ofNat m))=M.pure (.int .u64 (.ofNat (n+m))):=by rw[I8,show Int.ofNat n+Int.ofNat m=Int.ofNat (n+m)from rfl,d4q _ h]
theorem e8b:rp 85 8=6148914691236517205:=zu
theorem e8J:rp 51 8=3689348814741910323:=zu
theorem e7R:rp 15 8=1085102592571150095:=zu
theorem e9C (N call n)(h:n<18446744073709551616):b9n o9 N call (.int .u64 (.ofNat n))=M.pure (.ret (.int .i64 (.ofNat (pop n)))):=by
 have u1:a1 8 n=Nat.land (n/2^1) 6148914691236517205+Nat.land n 6148914691236517205:=by unfold a1;rw[e8b];rfl
 have u2:a2 8 n=Nat.land (a1 8 n/2^2) 3689348814741910323+Nat.land (a1 8 n) 3689348814741910323:=by unfold a2;rw[e8J];rfl
 have u3:a3 8 n=Nat.land (a2 8 n/2^4+a2 8 n) 1085102592571150095:=by unfold a3;rw[e7R];rfl
 have b1:Nat.land (n/2^1) 6148914691236517205<=6148914691236517205:=sU;have b2:Nat.land n 6148914691236517205<=6148914691236517205:=sU;have b3:Nat.land (a1 8 n/2^2) 3689348814741910323<=3689348814741910323:=sU;have b4:Nat.land (a1 8 n) 3689348814741910323<=3689348814741910323:=sU;have b5:Nat.land (a2 8 n/2^4+a2 8 n) 1085102592571150095<=1085102592571150095:=sU;have l1:n/2^1<18446744073709551616:=uR (nZ _ _) h;have l2:a1 8 n<18446744073709551616:=by rw[u1];omega
 have l3:a1 8 n/2^2<18446744073709551616:=uR (nZ _ _) l2;have l4:a2 8 n<=7378697629483820646:=by rw[u2];omega
 have l5:a2 8 n/2^4+a2 8 n<18446744073709551616:=zy;have l6:a3 8 n<=1085102592571150095:=by rw[u3];exact b5
 have e1:Q0 .i64 (Int.ofNat ((a3 8 n+a3 8 n/2^8+(a3 8 n+a3 8 n/2^8)/2^16)+(a3 8 n+a3 8 n/2^8+(a3 8 n+a3 8 n/2^8)/2^16)/2^32))=Int.ofNat ((a3 8 n+a3 8 n/2^8+(a3 8 n+a3 8 n/2^8)/2^16)+(a3 8 n+a3 8 n/2^8+(a3 8 n+a3 8 n/2^8)/2^16)/2^32):=b5v _ zy;have k1:a3 8 n/2^8<=1085102592571150095/256:=zy;have e2:=λ(t:TypeId) (x y:Operand)=>e9s Tryz.prog tab t x y ((a3 8 n+a3 8 n/2^8+(a3 8 n+a3 8 n/2^8)/2^16)+(a3 8 n+a3 8 n/2^8+(a3 8 n+a3 8 n/2^8)/2^16)/2^32) 127 zy zu;have e3:Nat.land ((a3 8 n+a3 8 n/2^8+(a3 8 n+a3 8 n/2^8)/2^16)+(a3 8 n+a3 8 n/2^8+(a3 8 n+a3 8 n/2^8)/2^16)/2^32) 127=pop n:=(pO _ 7).trans rfl;rw[e4A];simp only[O0];simp only[V.e7v,b4j,b1N _ _ _ _ _ _ _ l1 (by decide:6148914691236517205<18446744073709551616),b1N _ _ _ _ _ _ _ h (by decide:6148914691236517205<18446744073709551616),(by decide:(1:Nat)<=64)];rw[b3X _ _ _ _ _ _ _ zy,<-u1];simp only[V.e7v,b4j,b1N _ _ _ _ _ _ _ l3 (by decide:3689348814741910323<18446744073709551616),b1N _ _ _ _ _ _ _ l2 (by decide:3689348814741910323<18446744073709551616),(by decide:(2:Nat)<=64)];rw[b3X _ _ _ _ _ _ _ zy,<-u2];simp only[V.e7v,b4j,(by decide:(4:Nat)<=64)];rw[b3X _ _ _ _ _ _ _ l5];simp only[V.e7v,b1N _ _ _ _ _ _ _ l5 (by decide:1085102592571150095<18446744073709551616)];rw[<-u3];simp only[V.e7v,b4j,(by decide:(8:Nat)<=64)];rw[b3X _ _ _ _ _ _ _ zy];simp only[V.e7v,b4j,(by decide:(16:Nat)<=64)];rw[b3X _ _ _ _ _ _ _ zy];simp only[V.e7v,b4j,(by decide:(32:Nat)<=64)];rw[b3X _ _ _ _ _ _ _ zy];simp only[V.e7v,a0S,e1,e2,e3]
noncomputable def b7Q (z:Int):Option Value:=match z with|.ofNat n=>bcase (Nat.blt n 18446744073709551616) (some (.int .i64 (.ofNat (pop n)))) none|.negSucc _=>none
theorem d2R {z v}(h:b7Q z=some v):∃n,n<18446744073709551616/\z=.ofNat n/\v=.int .i64 (.ofNat (pop n)):=by
 cases z with
  |ofNat n=>have h':bcase (Nat.blt n 18446744073709551616) (some (Value.int .i64 (.ofNat (pop n)))) none=some v:=h;cases q:Nat.blt n 18446744073709551616 with|true=>rw[q]at h';cases h';exact⟨n,yH,rfl,rfl⟩|false=>rw[q]at h';cases h'
  |negSucc n=>cases h
theorem d6Y (n)(h:n<18446744073709551616):b7Q (.ofNat n)=some (.int .i64 (.ofNat (pop n))):=by show bcase (Nat.blt n 18446744073709551616) _ _=_;rw[I7 h];rfl
theorem e1R:J9 Tryz.prog tab (I6 mL) 187 (X1 .u64 b7Q):=a8O V5 N7 pL4 Tryz.func187 zw rfl λz v h=>by obtain⟨n,hn,rfl,rfl⟩:=d2R h;exact⟨rfl,2,by rw[Z5 (q:=b9n) (N:=NN) zw 1];exact a1f.pure (e9C _ _ n hn)⟩
noncomputable def c7j (z:Int):Option Value:=match z with
 |.ofNat n=>match a6k n with|some i=>some (.int .i64 (.ofNat i))|none=>none
 |.negSucc _=>none
theorem d9a (mL):J2 (λi=>b3m (o8 a7f 5 188 [.int .u64 (.ofNat (2^i))] (Go.V.a3d (I6 mL))) i) (upN 64)=true:=zw
theorem e2H:J9 Tryz.prog tab (I6 mL) 188 (X1 .u64 c7j):=a8N λz v h=>by
 cases z with
  |ofNat n=>have h':(match a6k n with|some i=>some (Value.int .i64 (.ofNat i))|none=>none)=some v:=h;cases q:a6k n with|some i=>rw[q]at h';cases h';obtain⟨h1,rfl⟩:=b8p q;obtain⟨s,hr⟩:=b2a ((M4 _ _).1 (d9a mL) i (uI.2 h1));exact⟨rfl,a5J V5 N7 a6y a2Q a5G b1Q Tryz.func188 zw rfl rfl rfl hr⟩|none=>rw[q]at h';cases h'
  |negSucc n=>cases h
end Go.Proofs.YtmomonnlmbljoaaGreatDoor
end
section
end
section
namespace Go.Proofs.YtmomonnlmbljoaaGreatDoor
open Go.Shelf Go.RowKit Go.Sort Go.Lib
set_option maxHeartbeats 6400000 in set_option maxRecDepth 100000 in theorem b8S (u:Nat)(hu64:u<18446744073709551616)(w:World)(htab:Lib.TabIs Tryz.prog w "internal/strconv.uint64pow10" .u64 Lib.pow10Tab):Calls Tryz.prog 126 #[.int .u64 u,.int .i64 10] w λe w'=>e=.returned (.string ⟨(Lib.decDigits u).toArray⟩)/\∃k os,w'=grow (w.drewN k) os:=by
 have e167:∀args w,(callFunc 167 args).run Tryz.prog w=.ok (.enter 167 args) w:=nX Tryz.func167 zw rfl;have e168:∀args w,(callFunc 168 args).run Tryz.prog w=.ok (.enter 168 args) w:=nX Tryz.func168 zw rfl;have e169:∀args w,(callFunc 169 args).run Tryz.prog w=.ok (.enter 169 args) w:=nX Tryz.func169 zw rfl;by_cases hs:u<100;have hwr:IntKind.i64.wrap (u:Int)=(u:Int):=by rw[IntKind.wrap_i64];omega
 go_enter Tryz.func126,Tryz.ntmps126;go_wp2_with (go_at_call 167;refine(Any.internal_strconv_small {Tryz.lFormatInt with} u hs _).mono ?_;rintro e w' ⟨rfl,rfl⟩);go_ret;exact⟨rfl,0,#[],by simp[World.drewN_zero]⟩;have hu1:1<=u:=zy;have hnd20:Lib.nDigits u<=20:=by have:=Lib.numDigits_eq u hu1 hu64;split at this<;>omega
 have hb3:Lib.nDigits u<=24:=zy;have hal:Tryz.prog.arrayLen 222=24:=by simp[Program.arrayLen,qW]
 have hsl1:∀W,(Instr.sliceAt 222 (.pointer (some ⟨w.heap.size,0,none⟩)) none (some (.int .i64 (Lib.nDigits u:Int))) none).run Tryz.prog W=.ok (.slice (some ⟨w.heap.size,0,none⟩) (Lib.nDigits u) 24) W:=λW=>by rw[run_sliceAt_array_h W 222 ⟨w.heap.size,0,none⟩ (by simp[Program.arrayLen,Program.elem,qW]) .i64 (Lib.nDigits u:Int) zy (by rw[hal];omega)];go_simp
 have hH0:=Lib.holds_zero0 w 222 (Lib.nDigits u) zy;have hfmt:=Any.internal_strconv_formatBase10 {Tryz.lFormatInt with} w.heap.size 0 24 u (Array.replicate (Lib.nDigits u) 0) (w.alloc (.cells Lib.zeros24 222)) hH0 (by rw[qo];exact Lib.lt_pow_nDigits u) hu64 (by rw[qo];omega);rw[qo]at hfmt;have HH0:=Lib.hid hH0;clear hH0;go_enter Tryz.func126,Tryz.ntmps126;go_wp2_with (first|(go_at_call 168;refine(Any.internal_strconv_numDigits {Tryz.lFormatInt with} u hu1 hu64 _ (Lib.tabIs_alloc htab _)).mono ?_;rintro e w' ⟨rfl,rfl⟩));go_at_call 169;refine hfmt.mono ?_;rintro e w' ⟨rfl,k,v',dk,rfl,hF⟩;have hcv:(convert 149 9 (.slice (some ⟨w.heap.size,0,none⟩) (Lib.nDigits u) 24)).run Tryz.prog ((putRow (λ(b:UInt8)=>Value.int .u8 (b.toNat:Int)) (w.alloc (.cells Lib.zeros24 222)) w.heap.size 0 dk).drewN k)=.ok (.string ⟨(Lib.decDigits u).toArray⟩) ((putRow (λ(b:UInt8)=>Value.int .u8 (b.toNat:Int)) (w.alloc (.cells Lib.zeros24 222)) w.heap.size 0 dk).drewN k):=by have h:=run_convert_bytes_back (P:=Tryz.prog) ((putRow (λ(b:UInt8)=>Value.int .u8 (b.toNat:Int)) (w.alloc (.cells Lib.zeros24 222)) w.heap.size 0 dk).drewN k) 149 9 5 ⟨w.heap.size,0,none⟩ 24 (Lib.decDigits u) rP uO uJ (λj hj=>by rw[Lib.row_is_numeral hF j hj,Lib.add_plain,World.cell?_drewN];exact cell?_putRow (λ(b:UInt8)=>Value.int .u8 (b.toNat:Int)) _ w.heap.size 0 _ dk HH0.out (by rw[hF.size,qo]) j (by rw[hF.size];rw[Lib.decDigits_length]at hj;exact hj));rw[Lib.decDigits_length]at h;exact h
 go_wp2;go_ret;obtain⟨os,eo⟩:=Lib.fin_at w (.cells Lib.zeros24 222) dk k 0;exact⟨rfl,k,os,eo⟩
end Go.Proofs.YtmomonnlmbljoaaGreatDoor
end
section
namespace Go.Proofs.YtmomonnlmbljoaaGreatDoor.S
open Go.V Go.RowKit Go.Shelf Go.Proofs
variable {mL:Int}
theorem b1X (w k os):Below w.heap.size w (Sort.grow (w.drewN k) os):=⟨rfl,rfl,rfl,by simp[Sort.grow,World.drewN],λi hi=>by show(w.heap++os)[i]?=_;rw[Array.getElem?_append_left hi]⟩
theorem d3y:Tryz.prog.globalNamed "internal/strconv.uint64pow10"=some 2:=zw
theorem c0v:b0a=Lib.pow10Tab.map λz=>Value.int .u64 z:=zw
theorem b4S {w}(h:LaidV (I6 mL) w):Lib.TabIs Tryz.prog w "internal/strconv.uint64pow10" .u64 Lib.pow10Tab:=by obtain⟨t,fz,e⟩:=h.row 2 b0a rfl (by rw[c0v];decide);show w.var? Tryz.prog _=_;unfold World.var?;rw[d3y];show(match w.heap[2]? with|some (.cells cs _ _)=>some cs|_=>none)=_;rw[e,c0v]
noncomputable def b4o (bs:List Value):Option Value:=match bs with|[.int .i64 n]=>bcase (decide (-9223372036854775808<=n)&&decide (n<=9223372036854775807)) (some (.string ⟨⟨Lib.itoa n⟩⟩)) none|_=>none
noncomputable def b1w (bs:List Value):Option Value:=match bs with|[.int .i64 n,.int .i64 10]=>bcase (decide (-9223372036854775808<=n)&&decide (n<=9223372036854775807)) (some (.string ⟨⟨Lib.itoa n⟩⟩)) none|_=>none
noncomputable def a4v (bs:List Value):Option Value:=match bs with|[.int .u64 (.ofNat u),.int .i64 10]=>bcase (Nat.blt u 18446744073709551616) (some (.string ⟨⟨Lib.decDigits u⟩⟩)) none|_=>none
theorem d2m:J9 Tryz.prog tab (I6 mL) 37 (λbs=>M.lift (b4o bs)):=a4b λbs v h=>by unfold b4o at h;split at h;rename_i n;obtain⟨h1,rfl⟩:=a3A h;simp only[wK,vZ]at h1;refine⟨rfl,rfl,λw hL=>⟨V4 Tryz.func37 zw rfl,?_⟩⟩;refine(Any.strconv_Itoa Tryz.lItoa n h1.1 h1.2 w (b4S hL)).mono λe w' hq=>?_;obtain⟨rfl,k,os,rfl⟩:=hq;exact⟨rfl,b1X w k os⟩;cases h
theorem c6c:J9 Tryz.prog tab (I6 mL) 95 (λbs=>M.lift (b1w bs)):=a4b λbs v h=>by unfold b1w at h;split at h;rename_i n;obtain⟨h1,rfl⟩:=a3A h;simp only[wK,vZ]at h1;refine⟨rfl,rfl,λw hL=>⟨V4 Tryz.func95 zw rfl,?_⟩⟩;refine(Any.strconv_FormatInt_10 Tryz.lFormatInt n h1.1 h1.2 w (b4S hL)).mono λe w' hq=>?_;obtain⟨rfl,k,os,rfl⟩:=hq;exact⟨rfl,b1X w k os⟩;cases h
theorem c3s:J9 Tryz.prog tab (I6 mL) 126 (λbs=>M.lift (a4v bs)):=a4b λbs v h=>by unfold a4v at h;split at h;rename_i u;obtain⟨h1,rfl⟩:=a3A h;refine⟨rfl,rfl,λw hL=>⟨V4 Tryz.func126 zw rfl,?_⟩⟩;refine(b8S u (by simpa[uh]using h1) w (b4S hL)).mono λe w' hq=>?_;obtain⟨rfl,k,os,rfl⟩:=hq;exact⟨rfl,b1X w k os⟩;cases h
end Go.Proofs.YtmomonnlmbljoaaGreatDoor.S
end
section
namespace Go.Proofs.YtmomonnlmbljoaaGreatDoor.S
open Go.V Go.RowKit Go.Shelf Go.Proofs
variable {mL:Int}
attribute [local congr] y7 x9 A8 A7 D5
def idxB (a:Int):Bool:=decide (0<=a)&&decide (a<4294967296)
theorem t86 (N call a):c6s o9 N call (.int .i64 a)=M.pure (.ret (.bool (idxB a))):=by simp only[e9z,O0,R6,K7,K4,K5,K6,V6,X5,a2o,F6,V.e7v,F7,a1H];rfl
theorem t59 (N call a):c7D o9 N call (.int .i64 a)=M.pure (.ret (.bool (idxB a))):=by simp only[e8q,O0,R6,K7,K4,K5,K6,V6,X5,a2o,F6,V.e7v,F7,a1H];rfl
theorem t88 (N call a):c5Z o9 N call (.int .i64 a)=M.pure (.ret (.bool (a0X a))):=by simp only[f0d,O0,R6,K7,K4,K5,K6,V6,X5,a2o,F6,V.e7v,a5t,a1H];rfl
theorem t61 (N call a):c6U o9 N call (.int .i64 a)=M.pure (.ret (.bool (a0X a))):=by simp only[e8X,O0,R6,K7,K4,K5,K6,V6,X5,a2o,F6,V.e7v,a5t,a1H];rfl
theorem t43 (N call a):c7G o9 N call (.int .i64 a)=M.pure (.ret (.string ⟨⟨bcase (decide (a=3)) [102,117,110,99] [101,120,116,101,114,110]⟩⟩)):=by simp only[e8G,O0,K4,J5,V.e7v,a7Q,b1r,Q5];rfl
theorem b8y (m)(h:m<10):Lib.decDigits m=[UInt8.ofNat (48+m)]:=by rw[Lib.decDigits,dif_pos h]
theorem d7e (m)(h:¬m<10):Lib.decDigits m=Lib.decDigits (m/10)++[UInt8.ofNat (48+m%10)]:=by rw[Lib.decDigits,dif_neg h]
theorem c4G (k):∀m,m<10^(k+1)->(Lib.decDigits m).length<=k+1:=by induction k with|zero=>intro m h;rw[b8y m zy];simp|succ k ih=>intro m h;by_cases h1:m<10;rw[b8y m h1];simp;rw[d7e m h1];have:=ih (m/10) (by rw[Nat.pow_succ]at h;omega);simp;omega
theorem a7x (m)(h:m<18446744073709551616):(Lib.decDigits m).length<=20:=c4G 19 m zy
theorem d2f (n):Lib.itoa (Int.ofNat n)=Lib.decDigits n:=by unfold Lib.itoa;rw[vN yY];rfl
theorem d2g (n):Lib.itoa (Int.negSucc n)=45::Lib.decDigits (n+1):=by unfold Lib.itoa;rw[vH (Int.negSucc_lt_zero n)];rfl
theorem a8r (z)(h1:-9223372036854775808<=z)(h2:z<=18446744073709551615):x8 (Lib.itoa z)<=21:=by rw[F9];cases z with|ofNat n=>rw[d2f];have:=a7x n (by simp only[vz]at h2;omega);omega|negSucc n=>rw[d2g];have:=a7x (n+1) zy;simp;omega
def sgn (w n:Nat):Int:=if n<2^(w-1)then(n:Int)else(n:Int)-2^w
noncomputable def a9M (z w:Int):Option Value:=match z with
 |.ofNat n=>match w with|.ofNat w=>bcase ((Nat.beq w 32&&Nat.blt n 4294967296)||(Nat.beq w 64&&Nat.blt n 18446744073709551616)) (some (.string ⟨⟨Lib.itoa (sgn w n)⟩⟩)) none|.negSucc _=>none
 |.negSucc _=>none
theorem a4u (k n):Q0 k n=k.wrap n:=V.a4u k n
theorem b5n (n)(hn:n<4294967296):-9223372036854775808<=sgn 32 n:=ym
theorem b5e (n)(hn:n<4294967296):sgn 32 n<=9223372036854775807:=ym
theorem c5K (n)(hn:n<4294967296):(Q0 .i64 (Int.ofNat (n*4294967296))).fdiv 4294967296=sgn 32 n:=xY
theorem c9c (n)(hn:n<4294967296)(t x y):a0M Tryz.prog tab .shl t x y (.int .u64 (.ofNat n)) (.int .i64 (.ofNat 32))=M.pure (.int .u64 (.ofNat (n*4294967296))):=by rw[a7n _ _ _ _ _ _ _ _ _ zu,show(2:Nat)^32=4294967296 from rfl,a4Y .u64 _ (by show n*4294967296<18446744073709551616;omega)]
theorem c9L (n)(hn:n<4294967296)(t x y):a0M Tryz.prog tab .shr t x y (.int .i64 (Q0 .i64 (Int.ofNat (n*4294967296)))) (.int .i64 (.ofNat 32))=M.pure (.int .i64 (sgn 32 n)):=by rw[Q3 _ _ _ _ _ _ _ _ _ zu,show(2:Int)^32=4294967296 from rfl,c5K n hn]
theorem e0i (N call n)(hn:n<4294967296)(hc:∀z,-9223372036854775808<=z->z<=9223372036854775807->call 95 [.int .i64 z,.int .i64 (.ofNat 10)]=M.pure (.ret (.string ⟨⟨Lib.itoa z⟩⟩))):b7E o9 N call (.int .u64 (.ofNat n)) (.int .i64 (.ofNat 32))=M.pure (.ret (.string ⟨⟨Lib.itoa (sgn 32 n)⟩⟩)):=by have e4:=hc _ (b5n n hn) (b5e n hn);have e2:=c9c n hn;have e5:=c9L n hn;generalize n*4294967296=b at e2 e5;have e1:Q0 .i64 (Int.ofNat 64-Int.ofNat 32)=Int.ofNat 32:=zu;have b1:decide (Int.ofNat 32<Int.ofNat 1)=false:=zu;have b2:decide (Int.ofNat 64<Int.ofNat 32)=false:=zu;simp only[e0t,O0,R6,U6,e1,b1,b2,H7,y9,K4,K5,K6,a4I,V6,X5,O3,J5,F6,V.e7v,F7,K3,Q4,a0S,e2,e5,e4,b5D]
theorem e0I (N call n)(hn:n<18446744073709551616)(hc:∀z,-9223372036854775808<=z->z<=9223372036854775807->call 95 [.int .i64 z,.int .i64 (.ofNat 10)]=M.pure (.ret (.string ⟨⟨Lib.itoa z⟩⟩))):b7E o9 N call (.int .u64 (.ofNat n)) (.int .i64 (.ofNat 64))=M.pure (.ret (.string ⟨⟨Lib.itoa (sgn 64 n)⟩⟩)):=by have e1:Q0 .i64 (Int.ofNat 64-Int.ofNat 64)=Int.ofNat 0:=zu;have e2:Q0 .u64 (Int.ofNat n)=Int.ofNat n:=a4Y .u64 _ hn;have e3:(Q0 .i64 (Int.ofNat n)).fdiv 1=sgn 64 n:=xY;have e4:call 95 [.int .i64 (sgn 64 n),.int .i64 (.ofNat 10)]=M.pure (.ret (.string ⟨⟨Lib.itoa (sgn 64 n)⟩⟩)):=hc _ ym ym;have b1:decide (Int.ofNat 64<Int.ofNat 1)=false:=zu;have b2:decide (Int.ofNat 64<Int.ofNat 64)=false:=zu;simp(maxSteps:=9999999) (disch:=try exact dx)only[gD,e0t,e1,b1,b2,H7,K4,K5,K6,O3,Nat.reducePow,Int.reducePow,F7,K3,Q4,a7n,Q3,a0S,uu,e2,e3,e4]
noncomputable def U7 (m:Nat):List UInt8:=32::Lib.decDigits m
noncomputable def a0v (m:Nat):List UInt8:=bcase (Nat.beq m 0) [] (U7 m)
theorem T9 (a b):decide (Int.ofNat a=Int.ofNat b)=Nat.beq a b:=by
 cases h:Nat.beq a b with
  |true=>rw[wR h];simp|false=>
   have:a≠b:=λe=>by rw[e]at h;simp at h
   simp only[vX,vz];omega
noncomputable def a6H (m n:Nat):List UInt8:=bcase (Nat.beq m 0&&Nat.beq n 0) [] (U7 m++U7 n)
theorem a7G (m)(hm:m<18446744073709551616):x8 (U7 m)<=21:=by rw[F9];have:=a7x m hm;simp[U7];omega
end Go.Proofs.YtmomonnlmbljoaaGreatDoor.S
end
