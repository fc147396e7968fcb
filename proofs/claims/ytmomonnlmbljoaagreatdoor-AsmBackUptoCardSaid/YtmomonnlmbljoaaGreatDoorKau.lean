import Derived.Test.YtmomonnlmbljoaaGreatDoorKag
import Derived.Test.YtmomonnlmbljoaaGreatDoorKar
import Derived.Test.YtmomonnlmbljoaaGreatDoorKas
import Derived.Test.YtmomonnlmbljoaaGreatDoorKat
set_option maxRecDepth 1000000
set_option maxHeartbeats 4000000
set_option linter.unusedVariables false
set_option linter.unusedSimpArgs false
noncomputable section
namespace Go.Proofs.YtmomonnlmbljoaaGreatDoor
open Go.V Go.RowKit Go.Shelf Go.Proofs
variable {mL:Int}
section
attribute [local congr] y8 x9 C8 A9 C9 A7 E8
theorem c0Z (m:Nat)(s:ByteArray):b1L tab 94 (.map (some m)) (.string s) true=M.bind (a6F m) λes=>M.obind (Z0 (.string s) es) λo=>match o with|some v=>M.pure (.tuple ⟨[v,.bool true]⟩)|none=>M.pure (.tuple ⟨[.int .i64 (.ofNat 0),.bool false]⟩):=zw
theorem b6t (m:Nat)(n:Int):b1L tab 90 (.map (some m)) (.int .i64 n) false=M.bind (a6F m) λes=>M.obind (Z0 (.int .i64 n) es) λo=>match o with|some v=>M.pure v|none=>M.pure (.pointer none):=zw
theorem a6z (m c h r w es)(hm:m<c)(e:h.get m=some (.map es)):go (a6F m) ⟨c,h,r,w⟩=some (es,⟨c,h,m::r,w⟩):=by unfold a6F;rw[J8];show R6 (rd m ⟨c,h,r,w⟩) _=_;rw[b3w,I1 hm,e];rfl
theorem b1m (t:Nat)(a):a0L Tryz.prog tab .neq 44 (.tmp t) (.const (.pointer none)) (.pointer (some a)) (.pointer none)=M.pure (.bool true):=zw
theorem b1i (t:Nat)(m):a0L Tryz.prog tab .neq 90 (.tmp t) (.const (.map none)) (.map (some m)) (.map none)=M.pure (.bool true):=zw
theorem c8h (t:Nat)(a):a0L Tryz.prog tab .eql 93 (.tmp t) (.const (.pointer none)) (.pointer (some a)) (.pointer none)=M.pure (.bool false):=zw
def b0I (v:Value)(k:Nat):M (List (Value×Value)):=a0C v λa=>M.bind (loadN a 2) λvs=>match vs with
 |[.map (some m),_]=>M.bind (a6F m) λes=>M.obind (Z0 (.int .i64 (.ofNat k)) es) λo=>M.obind o λpv=>a0C pv λb=>M.bind (loadN b 3) λws=>match ws with|[_,_,.map (some m2)]=>a6F m2|_=>M.fail
 |_=>M.fail
def b5u (fs:List (Value×Value))(T:List UInt8):Option Value:=bcase (a0u T [36]) (match Z0 (.string ⟨⟨T⟩⟩) fs with|some (some (.int .i64 n))=>some (.tuple ⟨[.int .i64 n,.int .i64 (.ofNat 0)]⟩)|some none=>some (.tuple ⟨[.int .i64 (.ofNat 0),.int .i64 (.ofNat 24)]⟩)|_=>none) (bcase (Nat.blt (z8 T) 1800000) (some (a6T T)) none)
def XF (bs:List Value):M Value:=match bs with|[v,.int .i64 (.ofNat k),.string s]=>M.bind (b0I v k) λfs=>M.lift (b5u fs s.data.toList)|_=>M.fail
theorem a3i {α v}{k:Addr->M α}{s s' u}(h:a0C v k s=some (u,s')):∃a,v=.pointer (some a)/\k a s=some (u,s'):=by unfold a0C at h;split at h;simp_all[H9];cases h
theorem b1T {a n s s' vs}(h:loadN a n s=some (vs,s')):∃b o g cs cur ro,a=⟨b,o,some g⟩/\b<s.c/\s.h.get b=some (.cells cs cur ro)/\q9 g (G7 cs o) n=some vs/\s'.c=s.c/\s'.h=s.h:=by obtain⟨b,o,sp⟩:=a;unfold loadN at h;obtain⟨g,hg,h⟩:=H9 h;obtain⟨ob,s1,h1,h2⟩:=D6 h;obtain⟨r1,r2,r3,r4⟩:=b0L h1;cases ob with|cells cs cur ro=>obtain⟨q1,q2⟩:=a3s (h2:M.lift (q9 g (G7 cs o) n) s1=_);grind|_=>cases h2
theorem c3h {m s s' es}(h:a6F m s=some (es,s')):m<s.c/\s.h.get m=some (.map es)/\s'.c=s.c/\s'.h=s.h:=by unfold a6F at h;obtain⟨ob,s1,h1,h2⟩:=D6 h;obtain⟨r1,r2,r3,r4⟩:=b0L h1;cases ob with|map es'=>obtain⟨rfl,rfl⟩:=x8 (h2:M.pure es' s1=_);simp_all|_=>cases h2
structure KindAt (U:Nat→Prop) (h:Trie VObj) (v:Value) (k:Nat) (fs:List (Value×Value)):Prop where
 ex:∃ sb so g cs cur ro m lv es kb ko kg ds cur2 ro2 n nm m2,v=.pointer (some ⟨sb,so,some g⟩)∧U sb∧h.get sb=some (.cells cs cur ro)∧q9 g (G7 cs so) 2=some [.map (some m),lv]∧U m∧h.get m=some (.map es) ∧
  Z0 (.int .i64 (.ofNat k)) es=some (some (.pointer (some ⟨kb,ko,some kg⟩)))∧U kb∧h.get kb=some (.cells ds cur2 ro2)∧q9 kg (G7 ds ko) 3=some [n,nm,.map (some m2)]∧U m2∧h.get m2=some (.map fs)
theorem KindAt.mono {U U' h h' v k fs}(H:KindAt U h v k fs)(hu:∀i,U i->U' i/\h'.get i=h.get i):KindAt U' h' v k fs:=by obtain⟨sb,so,g,cs,cur,ro,m,lv,es,kb,ko,kg,ds,cur2,ro2,n,nm,m2,rfl,h1,h2,h3,h4,h5,h6,h7,h8,h9,h10,h11⟩:=H.ex;exact⟨sb,so,g,cs,cur,ro,m,lv,es,kb,ko,kg,ds,cur2,ro2,n,nm,m2,rfl,(hu _ h1).1,(hu _ h1).2.trans h2,h3,(hu _ h4).1,(hu _ h4).2.trans h5,h6,(hu _ h7).1,(hu _ h7).2.trans h8,h9,(hu _ h10).1,(hu _ h10).2.trans h11⟩
theorem c5K {v k s s' fs}(h:b0I v k s=some (fs,s')):KindAt (λi=>i<s.c) s.h v k fs/\s'.c=s.c/\s'.h=s.h:=by unfold b0I at h;obtain⟨a,rfl,g1⟩:=a3i h;obtain⟨vs,s1,h1,g2⟩:=D6 g1;obtain⟨sb,so,g,cs,cur,ro,rfl,a1,a2,a3,a4,a5⟩:=b1T h1;split at g2;rename_i m lv;obtain⟨es,s2,h2,g3⟩:=D6 g2;obtain⟨b1,b2,b3,b4⟩:=c3h h2;obtain⟨o,ho,g4⟩:=H9 g3;obtain⟨pv,hpv,g5⟩:=H9 g4;obtain⟨b,rfl,g6⟩:=a3i g5;obtain⟨ws,s3,h3,g7⟩:=D6 g6;obtain⟨kb,ko,kg,ds,cur2,ro2,rfl,c1,c2,c3,c4,c5⟩:=b1T h3;split at g7;rename_i n nm m2;obtain⟨d1,d2,d3,d4⟩:=c3h g7;subst hpv;refine⟨⟨sb,so,g,cs,cur,ro,m,lv,es,kb,ko,kg,ds,cur2,ro2,n,nm,m2,rfl,a1,a2,a3,zy,by rw[<-a5];exact b2,ho,zy,by rw[<-a5,<-b4];exact c2,c3,zy,by rw[<-a5,<-b4,<-c5];exact d2⟩,zy,by rw[d4,c5,b4,a5]⟩;cases g7;cases g2
theorem e4n (bs):Fr (XF bs):=by unfold XF;split;refine Fr.bind ?_ λ_=>Fr.lift _;unfold b0I;refine Fr.asPtr _ λa=>Fr.bind (Fr.loadN _ _) λvs=>?_;split;grind[Fr.bind,Fr.mapAt,Fr.obind,Fr.asPtr,Fr.loadN,Fr.fail];exact Fr.fail;exact Fr.fail
theorem b6c {fs T y}(h:b5u fs T=some y):(a0u T [36]=true/\((∃n,Z0 (.string ⟨⟨T⟩⟩) fs=some (some (.int .i64 n))/\y=.tuple ⟨[.int .i64 n,.int .i64 (.ofNat 0)]⟩)\/(Z0 (.string ⟨⟨T⟩⟩) fs=some none/\y=.tuple ⟨[.int .i64 (.ofNat 0),.int .i64 (.ofNat 24)]⟩)))\/(a0u T [36]=false/\T.length<1800000/\y=a6T T):=by unfold b5u at h;cases q:a0u T [36]with|true=>rw[q]at h;refine Or.inl ⟨rfl,?_⟩;have h':(match Z0 (.string ⟨⟨T⟩⟩) fs with|some (some (.int .i64 n))=>some (Value.tuple ⟨[.int .i64 n,.int .i64 (.ofNat 0)]⟩)|some none=>some (.tuple ⟨[.int .i64 (.ofNat 0),.int .i64 (.ofNat 24)]⟩)|_=>none)=some y:=h;grind|false=>rw[q]at h;have h':bcase (Nat.blt (z8 T) 1800000) (some (a6T T)) none=some y:=h;cases q2:Nat.blt (z8 T) 1800000 with|true=>rw[q2]at h';cases h';exact Or.inr ⟨rfl,by rw[G8]at q2;simpa using q2,rfl⟩|false=>rw[q2]at h';cases h'
def pe4:Nat->Option (List Value->M Value):=(M7 (M7 (M7 pe3 80 (λbs=>M.lift (b0j b2o bs))) 182 (λbs=>M.lift (XT a2R bs))) 184 (λbs=>M.lift (XN c6S bs)))
def ps4:a2x:=(U7 (U7 (U7 ps3 80 (λbs=>M.lift (b0j b2o bs))) 182 (λbs=>M.lift (XT a2R bs))) 184 (λbs=>M.lift (XN c6S bs)))
theorem pL4:Shelf' Tryz.prog tab (I5 mL) NN pe4 ps4:=(((pL3.add e4d)).add e0R).add e1Q
theorem b7m (n T P):o9 ps4 (n+1) 80 [.string ⟨⟨T⟩⟩,.string ⟨⟨P⟩⟩]=M.pure (.ret (.bool (a0u T P))):=V9 ps4 n 80 _ (g:=b0j b2o) zw rfl
theorem d5O (n T)(h:T.length<1800000):o9 ps4 (n+1) 81 [.string ⟨⟨T⟩⟩,.int .i64 (.ofNat 4294967295)]=M.pure (.ret (a6T T)):=V9 ps4 n 81 _ (g:=b2L 4294967295 a6T) zw (b4D _ _ T h)
theorem b7z (n a):o9 ps4 (n+1) 79 [a]=b2I o8 NN (o9 ps4 n) a:=Y7 (q:=b2I) (N:=NN) zw n a
theorem c2g (n a b):o9 ps4 (n+1) 106 [a,b]=b2A o8 NN (o9 ps4 n) a b:=a1H (q:=b2A) (N:=NN) zw n a b
theorem c2w (T):a6T T=.tuple ⟨[.int .i64 (.ofNat (a4O T).1),.int .i64 (.ofNat (a4O T).2)]⟩:=rfl
theorem f0G {c c0 h v k fs}(H:KindAt (λi=>i<c0) h v k fs)(hc:c0<=c){T y}(hy:b5u fs T=some y)(r w):l9 (go (c0L o8 NN (o9 ps4 3) v (.int .i64 (.ofNat k)) (.string ⟨⟨T⟩⟩)) ⟨c,h,r,w⟩) λx s=>x=.ret y/\∀i,i<c->s.h.get i=h.get i:=by
 obtain⟨sb,so,g,cs,cur,ro,m,lv,es,kb,ko,kg,ds,cur2,ro2,n,nm,m2,rfl,h1,h2,h3,h4,h5,h6,h7,h8,h9,h10,h11⟩:=H.ex;have a1:sb<c:=zy;have a2:m<c:=zy;have a3:kb<c:=zy;have a4:m2<c:=zy;have t1:q9 g (G7 cs so) 1=some [.map (some m)]:=a1k h3 0 _ rfl▸by rw[a0f]
 have t2:q9 kg (G7 ds (ko+2)) 1=some [.map (some m2)]:=by rw[a4z];exact a1k h9 2 _ rfl
 have e1:=λr w=>a6z m c h r w es a2 h5;have e2:=λr w=>a6z m2 c h r w fs a4 h11;rcases b6c hy with⟨p1,⟨z,p2,rfl⟩|⟨p2,rfl⟩⟩|⟨p1,p2,rfl⟩;simp(disch:=first|exact dz|fail)only[d3x,b7z,F79,c2g,d2w,b7m,b6t,c0Z,b1m,b1i,c8h,h2,h8,t1,t2,e1,e2,h6,p1,p2,bY];exact l9.done ⟨rfl,λi hi=>rfl⟩;simp(disch:=first|exact dz|fail)only[d3x,b7z,F79,c2g,d2w,b7m,b6t,c0Z,b1m,b1i,c8h,h2,h8,t1,t2,e1,e2,h6,p1,p2,bY];exact l9.done ⟨rfl,λi hi=>rfl⟩;simp(disch:=first|exact dz|fail)only[d3x,b7z,F79,c2g,d2w,b7m,d5O,b6t,b1m,b1i,c8h,h2,t1,e1,h6,p1,c2w,bY];exact l9.done ⟨rfl,λi hi=>rfl⟩
theorem e0d:K3 Tryz.prog tab (I5 mL) 207 XF:=a7O V7 M9 (pL4 (mL:=mL)).e (pL4 (mL:=mL)).s Tryz.func207 zw rfl e4n λbs s y s1 hq=>by unfold XF at hq;split at hq;rename_i v k t;obtain⟨fs,s2,h1,h2⟩:=D6 hq;obtain⟨h3,rfl⟩:=a3s h2;obtain⟨h4,h5,h6⟩:=c5K h1;refine⟨?_,h5,h6,λc hc=>⟨4,?_⟩⟩;rcases b6c h3 with⟨_,⟨z,_,rfl⟩|⟨_,rfl⟩⟩|⟨_,_,rfl⟩<;>rfl;rw[b1g (q:=c0L) (N:=NN) zw 3];exact f0G h4 hc h3 _ _;cases hq
def a2N (s:List UInt8):Value:=.string ⟨⟨s⟩⟩
def c0o (vs:List Value):Option (List (List UInt8)):=List.rec (motive:=λ_=>Option (List (List UInt8))) (some []) (λv _ ih=>match v with
 |.string s=>match ih with|some l=>some (s.data.toList::l)|none=>none
 |_=>none) vs
theorem c8s:∀{vs} {l},c0o vs=some l->vs=l.map a2N:=by
 intro vs;induction vs with
  |nil=>intro l h;cases h;rfl|cons v vs ih=>
   intro l h;cases v with
    |string s=>have h':(match c0o vs with|some l=>some (s.data.toList::l)|none=>none)=some l:=h;cases q:c0o vs with|none=>rw[q]at h';cases h'|some l'=>rw[q]at h';cases h';rw[ih q];rfl
    |_=>cases h
def SlU (U:Nat->Prop)(h:Trie VObj)(v:Sl)(vs:List Value):Prop:=v.n=vs.length/\(vs=[]\/∃b o g cs cur ro,v.a=some ⟨b,o,some g⟩/\v.e=1/\U b/\h.get b=some (.cells cs cur ro)/\q9 g (G7 cs o) vs.length=some vs)
theorem SlU.mono {U U' h h' v vs}(H:SlU U h v vs)(hu:∀i,U i->U' i/\h'.get i=h.get i):SlU U' h' v vs:=by obtain⟨h0,h1|⟨b,o,g,cs,cur,ro,h1,h2,h3,h4,h5⟩⟩:=H;exact⟨h0,Or.inl h1⟩;exact⟨h0,Or.inr ⟨b,o,g,cs,cur,ro,h1,h2,(hu _ h3).1,(hu _ h3).2.trans h4,h5⟩⟩
theorem SlU.of {c h a n e vs}(H:K6 c h (.slice a n e) vs):SlU (λi=>i<c) h ⟨a,n,e⟩ vs:=by obtain⟨a',e',h0,h1⟩:=H;cases h0;exact⟨rfl,h1⟩
structure LabAt (U:Nat→Prop) (h:Trie VObj) (v:Value) (L:List (List UInt8)):Prop where
 ex:∃ sb so g cs cur ro m lv,v=.pointer (some ⟨sb,so,some g⟩)∧U sb∧h.get sb=some (.cells cs cur ro)∧q9 g (G7 cs so) 2=some [.map (some m),.slice (Sl.a lv) lv.n lv.e]∧SlU U h lv (L.map a2N)
 len:L.length<1800000
theorem LabAt.mono {U U' h h' v L}(H:LabAt U h v L)(hu:∀i,U i->U' i/\h'.get i=h.get i):LabAt U' h' v L:=by obtain⟨⟨sb,so,g,cs,cur,ro,m,lv,rfl,h1,h2,h3,h4⟩,h5⟩:=H;exact⟨⟨sb,so,g,cs,cur,ro,m,lv,rfl,(hu _ h1).1,(hu _ h1).2.trans h2,h3,h4.mono hu⟩,h5⟩
def b2W (v:Value):M (List (List UInt8)):=a0C v λa=>M.bind (loadN a 2) λvs=>match vs with|[.map (some _),.slice la ln le]=>M.bind (b8i (.slice la ln le)) λws=>M.obind (c0o ws) λL=>M.guard (Nat.blt (z8 L) 1800000) (M.pure L)|_=>M.fail
theorem c8G {v s s' L}(h:b2W v s=some (L,s')):LabAt (λi=>i<s.c) s.h v L/\s'.c=s.c/\s'.h=s.h:=by unfold b2W at h;obtain⟨a,rfl,g1⟩:=a3i h;obtain⟨vs,s1,h1,g2⟩:=D6 g1;obtain⟨sb,so,g,cs,cur,ro,rfl,a1,a2,a3,a4,a5⟩:=b1T h1;split at g2;rename_i m la ln le;obtain⟨ws,s2,h2,g3⟩:=D6 g2;obtain⟨b1,b2,b3⟩:=c2d h2;obtain⟨L',hL,g4⟩:=H9 g3;obtain⟨g5,g6⟩:=I4 g4;obtain⟨rfl,rfl⟩:=x8 g6;rw[c8s hL]at b1;refine⟨⟨⟨sb,so,g,cs,cur,ro,m,⟨la,ln,le⟩,rfl,a1,a2,a3,?_⟩,by rw[G8]at g5;simpa using g5⟩,zy,by rw[b3,a5]⟩;have:=SlU.of b1;rw[a4,a5]at this;exact this;cases g2
def a6O (T:List UInt8):List (List UInt8)->Nat->Option Nat|[],_=>none|x::t,i=>bcase (beqBytes x T) (some i) (a6O T t (i+1))
def b8x (L:List (List UInt8))(T:List UInt8):Value:=match a6O T L.reverse 0 with|some n=>.tuple ⟨[.int .i64 (.ofNat n),.int .i64 (.ofNat 0)]⟩|none=>.tuple ⟨[.int .i64 (.ofNat 0),.int .i64 (.ofNat 24)]⟩
def b5F (L:List (List UInt8))(T:List UInt8):Option Value:=bcase (a0u T [36]) (some (b8x L T)) (bcase (Nat.blt (z8 T) 1800000) (some (a6T T)) none)
def b5H (bs:List Value):M Value:=match bs with|[v,.string s]=>M.bind (b2W v) λL=>M.lift (b5F L s.data.toList)|_=>M.fail
theorem d6u (bs):Fr (b5H bs):=by unfold b5H;split;refine Fr.bind ?_ λ_=>Fr.lift _;unfold b2W;grind[Fr.asPtr,Fr.bind,Fr.loadN,Fr.rdSl,Fr.obind,Fr.guard,Fr.pure,Fr.fail];exact Fr.fail
theorem c7H (L T):K5 8 (b8x L T)=true:=by unfold b8x;cases a6O T L.reverse 0<;>rfl
theorem e1L {L:List (List UInt8)}{i x}(h:L.reverse[i]?=some x):L[L.length-1-i]?=some x:=by have hi:=(wM.1 h).1;rw[uY]at hi;rw[List.getElem?_reverse hi]at h;exact h
theorem d2e (N call T)(L:List (List UInt8))(hl:L.length<1800000)(c h sb so sg css curs ros lv)(m:Nat)(hs1:sb<c)(hs2:h.get sb=some (.cells css curs ros))(hs3:q9 sg (G7 css (so+1)) 1=some [.slice lv.a lv.n lv.e])(H:SlU (λi=>i<c) h lv (L.map a2N)):∀(t) (i k) (g0 g1 g2 g3 g4 g5 g6 g7 g8 g9 g10 g11 g12 g13 g14 g15 g16 g17 g18 g19 g20 g21 g22) (r w),L.reverse.drop i=t->t.length<k->l9 (go (R7 (d5K o8 N call (.int .i64 (.ofNat L.length)) (.pointer (some ⟨sb,so,some sg⟩)) (.string ⟨⟨T⟩⟩)) k [g0,g1,g2,g3,g4,g5,g6,g7,g8,g9,g10,g11,g12,g13,g14,g15,g16,g17,g18,g19,g20,g21,g22,.int .i64 (.ofNat i)]) ⟨c,h,r,w⟩) λx s=>s.c=c/\s.h=h/\((a6O T t i=none/\x.1=.exit 0)\/∃n,a6O T t i=some n/\x.1=.ret/\D5 x.2 20=.int .i64 (.ofNat n)/\D5 x.2 21=.int .i64 (.ofNat 0)):=by
 intro t;induction t with
  |nil=>
   intro i k g0 g1 g2 g3 g4 g5 g6 g7 g8 g9 g10 g11 g12 g13 g14 g15 g16 g17 g18 g19 g20 g21 g22 r w hd hk;obtain⟨k,rfl⟩:∃m,k=m+1:=⟨k-1,zy⟩;have hi:decide (i<L.length)=false:=by have:L.length<=i:=zn;rw[uz];omega
   simp(disch:=first|exact dz|fail)only[Y8,L32,dlt,hi,bY];exact l9.done ⟨rfl,rfl,Or.inl ⟨rfl,rfl⟩⟩|cons x t ih=>
   intro i k g0 g1 g2 g3 g4 g5 g6 g7 g8 g9 g10 g11 g12 g13 g14 g15 g16 g17 g18 g19 g20 g21 g22 r w hd hk;obtain⟨k,rfl⟩:∃m,k=m+1:=⟨k-1,zy⟩;have hil:i<L.length:=by have:=vw List.length hd;grind
   have hi:decide (i<L.length)=true:=by rw[vF];exact hil
   have hq:L.reverse[i]?=some x:=by have:=vw (λt=>t[0]?) hd;grind
   have hd':L.reverse.drop (i+1)=t:=zJ;have hx:=e1L hq;have hinc:=J2 i zy;obtain⟨hn,hor⟩:=H;rcases hor with h0|⟨b,o,g,cs,cur,ro,ha,he,hb,hg,ht⟩;have:L=[]:=zo;simp_all;obtain⟨la,ln,le⟩:=lv;simp only at hn ha he;subst ha;subst he;rw[wB]at hn;subst hn;have e1:Q0 .i64 (Int.ofNat L.length-Int.ofNat 1)=Int.ofNat (L.length-1):=by rw[show Int.ofNat L.length-Int.ofNat 1=Int.ofNat (L.length-1) by grind];grind[b5L]
   have e2:Q0 .i64 (Int.ofNat (L.length-1)-Int.ofNat i)=Int.ofNat (L.length-1-i):=by rw[show Int.ofNat (L.length-1)-Int.ofNat i=Int.ofNat (L.length-1-i) by grind];grind[b5L]
   have e3:=a1x 1 (L.length-1-i) L.length .i64 b o (some g) zy zu;have e4:q9 g (G7 cs (o+(L.length-1-i)*1)) 1=some [.string ⟨⟨x⟩⟩]:=by rw[a4z,vD];exact a1k ht (L.length-1-i) _ (by rw[vW,hx];rfl)
   generalize hj:L.length-1-i=j at*;generalize hj2:o+j*1=o2 at*;have hlen:=Q8 (some ⟨b,o,some g⟩) L.length 1;cases q:beqBytes x T with|true=>simp(disch:=first|exact dz|fail)only[Y8,L32,F32,dlt,hi,hs2,hs3,hlen,e1,e2,e3,e4,hg,q,bY];exact l9.done ⟨rfl,rfl,Or.inr ⟨i,by show bcase (beqBytes x T) _ _=_;rw[q];rfl,rfl,rfl,rfl⟩⟩|false=>simp(disch:=first|exact dz|fail)only[Y8,L32,F32,dlt,hi,hs2,hs3,hlen,e1,e2,e3,e4,hg,q,hinc,bY];rw[show a6O T (x::t) i=a6O T t (i+1) by show bcase (beqBytes x T) _ _=_;rw[q];rfl];exact ih (i+1) k _ _ _ _ _ _ _ _ _ _ _ _ _ _ _ _ _ _ _ _ _ _ _ _ _ hd' zn
theorem n32 {c c0 h v L}(H:LabAt (λi=>i<c0) h v L)(hc:c0<=c){T y}(hy:b5F L T=some y)(r w):l9 (go (c7t o8 NN (o9 ps4 3) v (.string ⟨⟨T⟩⟩)) ⟨c,h,r,w⟩) λx s=>x=.ret y/\∀i,i<c->s.h.get i=h.get i:=by
 obtain⟨⟨sb,so,g,cs,cur,ro,m,lv,rfl,h1,h2,h3,h4⟩,h5⟩:=H.mono (U':=λi=>i<c) (h':=h) (λi hi=>⟨wD hi hc,rfl⟩);have a1:sb<c:=h1;have t1:q9 g (G7 cs so) 1=some [.map (some m)]:=a1k h3 0 _ rfl▸by rw[a0f]
 have t2:q9 g (G7 cs (so+1)) 1=some [.slice lv.a lv.n lv.e]:=by rw[a4z];exact a1k h3 1 _ rfl
 have hn:lv.n=L.length:=by rw[h4.1,wB]
 have hlen:=Q8 lv.a L.length lv.e;unfold b5F at hy;cases p1:a0u T [36]with
  |true=>rw[p1]at hy;cases hy;simp(disch:=first|exact dz|fail)only[F32,b7z,F79,b7m,b1m,b1i,h2,t1,t2,p1,hn,hlen,bY];have hlp:=d2e NN (o9 ps4 3) T L h5 c h sb so g cs cur ro lv m a1 h2 t2 h4 L.reverse 0 NN undef undef undef undef undef undef undef undef undef undef undef undef undef undef undef undef undef undef undef undef (.int .i64 (.ofNat 0)) (.int .i64 (.ofNat 0)) undef;refine l9.bindS (hlp _ _ rfl (by rw[uY];grind)) λx s hq=>?_;obtain⟨x1,x2⟩:=x;obtain⟨c',h',r',w'⟩:=s;obtain⟨rfl,rfl,⟨e1,rfl⟩|⟨n,e1,rfl,e2,e3⟩⟩:=hq;simp(disch:=first|exact dz|fail)only[bY];exact l9.done ⟨by grind[b8x],λi hi=>rfl⟩;simp only at e2 e3;simp(disch:=first|exact dz|fail)only[e2,e3,bY];exact l9.done ⟨by grind[b8x],λi hi=>rfl⟩|false=>
   rw[p1]at hy;have hy':bcase (Nat.blt (z8 T) 1800000) (some (a6T T)) none=some y:=hy;cases q2:Nat.blt (z8 T) 1800000 with
    |false=>rw[q2]at hy';cases hy'|true=>
     rw[q2]at hy';cases hy';have p2:T.length<1800000:=by rw[G8]at q2;simpa using q2
     simp(disch:=first|exact dz|fail)only[F32,b7z,F79,b7m,d5O,b1m,b1i,h2,t1,p1,c2w,bY];exact l9.done ⟨rfl,λi hi=>rfl⟩
theorem e4g:K3 Tryz.prog tab (I5 mL) 32 b5H:=a7O V7 M9 (pL4 (mL:=mL)).e (pL4 (mL:=mL)).s Tryz.func32 zw rfl d6u λbs s y s1 hq=>by
 unfold b5H at hq;split at hq;rename_i v t;obtain⟨L,s2,h1,h2⟩:=D6 hq;obtain⟨h3,rfl⟩:=a3s h2;obtain⟨h4,h5,h6⟩:=c8G h1;refine⟨?_,h5,h6,λc hc=>⟨4,?_⟩⟩;unfold b5F at h3;cases qp:a0u t.data.toList [36]with|true=>rw[qp]at h3;cases h3;exact c7H _ _|false=>rw[qp]at h3;cases q:Nat.blt (z8 t.data.toList) 1800000 with|true=>have h3':bcase (Nat.blt (z8 t.data.toList) 1800000) (some (a6T t.data.toList)) none=some y:=h3;rw[q]at h3';cases h3';rfl|false=>have h3':bcase (Nat.blt (z8 t.data.toList) 1800000) (some (a6T t.data.toList)) none=some y:=h3;rw[q]at h3';cases h3'
 rw[a1H (q:=c7t) (N:=NN) zw 3];exact n32 h4 hc h3 _ _;cases hq
def b5V (a:Option Addr)(n e:Nat):M (Option (Nat×List UInt8)):=match n with|0=>M.pure none|_+1=>M.guard (Nat.beq e 4) (M.obind a λa=>M.bind (loadN a 4) λvs=>match vs with|[.int .i64 (.ofNat k),_,.string s,_]=>M.pure (some (k,s.data.toList))|_=>M.fail)
theorem Fr.rdHd (a:Option Addr)(n e:Nat):Fr (b5V a n e):=by unfold Proofs.YtmomonnlmbljoaaGreatDoor.b5V;split;exact Fr.pure _;refine Fr.guard _ (Fr.obind _ λa=>Fr.bind (Fr.loadN _ _) λvs=>?_);split;exact Fr.pure _;exact Fr.fail
def b3O (U:Nat->Prop)(h:Trie VObj)(a:Option Addr)(n e:Nat)(o:Option (Nat×List UInt8)):Prop:=(n=0/\o=none)\/∃m b off g cs cur ro k x s y,n=m+1/\e=4/\a=some ⟨b,off,some g⟩/\U b/\h.get b=some (.cells cs cur ro)/\q9 g (G7 cs off) 4=some [.int .i64 (.ofNat k),x,.string ⟨⟨s⟩⟩,y]/\o=some (k,s)
theorem b3O.mono {U U' h h' a n e o}(H:b3O U h a n e o)(hu:∀i,U i->U' i/\h'.get i=h.get i):b3O U' h' a n e o:=by rcases H with h1|⟨m,b,off,g,cs,cur,ro,k,x,s,y,h1,h2,h3,h4,h5,h6,h7⟩;exact Or.inl h1;exact Or.inr ⟨m,b,off,g,cs,cur,ro,k,x,s,y,h1,h2,h3,(hu _ h4).1,(hu _ h4).2.trans h5,h6,h7⟩
theorem d2W {a n e s s' o}(h:b5V a n e s=some (o,s')):b3O (λi=>i<s.c) s.h a n e o/\s'.c=s.c/\s'.h=s.h:=by unfold b5V at h;split at h;obtain⟨rfl,rfl⟩:=x8 h;exact⟨Or.inl ⟨rfl,rfl⟩,rfl,rfl⟩;rename_i m;obtain⟨h1,h2⟩:=I4 h;obtain⟨ad,ha,h3⟩:=H9 h2;obtain⟨vs,s1,h4,h5⟩:=D6 h3;obtain⟨sb,so,g,cs,cur,ro,rfl,a1,a2,a3,a4,a5⟩:=b1T h4;split at h5;rename_i k x t y;obtain⟨rfl,rfl⟩:=x8 h5;exact⟨Or.inr ⟨m,sb,so,g,cs,cur,ro,k,x,t.data.toList,y,rfl,wK h1,ha,a1,a2,a3,rfl⟩,a4,a5⟩;cases h5
def a1b (k:Nat)(o:Option (Nat×List UInt8))(W:List UInt8):Bool:=match o with|none=>false|some x=>decide (k=0)&&(decide (x.1=2)&&beqBytes x.2 W)
def XBg (bs:List Value):M Value:=match bs with|[.agg ⟨[.int .i64 (.ofNat k),.int .i64 (.ofNat _),.string _,.slice a n e]⟩,.string w]=>M.bind (b5V a n e) λo=>M.pure (.bool (a1b k o w.data.toList))|_=>M.fail
theorem e3t (bs):Fr (XBg bs):=by unfold XBg;split;grind[Fr.bind,Fr.rdHd,Fr.pure];exact Fr.fail
theorem f0P (N call k p T W a n e c c0 h o)(H:b3O (λi=>i<c0) h a n e o)(hc:c0<=c)(r w):l9 (go (c0I o8 N call (.agg ⟨[.int .i64 (.ofNat k),.int .i64 (.ofNat p),.string ⟨⟨T⟩⟩,.slice a n e]⟩) (.string ⟨⟨W⟩⟩)) ⟨c,h,r,w⟩) λx s=>x=.ret (.bool (a1b k o W))/\∀i,i<c->s.h.get i=h.get i:=by
 have hf:∀i,i<c->i≠c:=λi hi=>zy;have hlen:=Q8 a n e;rcases H with⟨rfl,rfl⟩|⟨m,b,off,g,cs,cur,ro,k1,x,s,y,rfl,rfl,rfl,h4,h5,h6,rfl⟩;have d0:decide (Int.ofNat 0<Int.ofNat 0)=false:=rfl;cases q1:decide (k=0)with|false=>simp(disch:=first|exact dz|fail)only[c2J,X6,q1,bY];exact l9.done ⟨rfl,λi hi=>by grind[d9]⟩|true=>simp(disch:=first|exact dz|fail)only[c2J,X6,q1,hlen,d0,bY];exact l9.done ⟨rfl,λi hi=>by grind[d9]⟩
 have d0:decide (Int.ofNat 0<Int.ofNat (m+1))=true:=zn;have hb:b<c:=zy;have hb2:b≠c:=zy;have e3:=a1x 4 0 (m+1) .i64 b off (some g) zy zu;rw[rH,vC]at e3;have t0:q9 g (G7 cs off) 1=some [.int .i64 (.ofNat k1)]:=a1k h6 0 _ rfl▸by rw[a0f]
 have t2:q9 g (G7 cs (off+2)) 1=some [.string ⟨⟨s⟩⟩]:=by rw[a4z];exact a1k h6 2 _ rfl
 unfold a1b;cases q1:decide (k=0)with|false=>simp(disch:=first|exact dz|fail)only[c2J,X6,q1,bY];exact l9.done ⟨rfl,λi hi=>by grind[d9]⟩|true=>cases q2:decide (k1=2)with|false=>simp(disch:=first|exact dz|fail)only[c2J,X6,q1,q2,hlen,d0,e3,h5,t0,bY];exact l9.done ⟨rfl,λi hi=>by grind[d9]⟩|true=>simp(disch:=first|exact dz|fail)only[c2J,X6,q1,q2,hlen,d0,e3,h5,t0,t2,bY];exact l9.done ⟨rfl,λi hi=>by grind[d9]⟩
theorem e1v:K3 Tryz.prog tab (I5 mL) 113 XBg:=a7O V7 M9 (pL4 (mL:=mL)).e (pL4 (mL:=mL)).s Tryz.func113 zw rfl e3t λbs s y s1 hq=>by unfold XBg at hq;split at hq;rename_i k p t a n e w;obtain⟨o,s2,h1,h2⟩:=D6 hq;obtain⟨rfl,rfl⟩:=x8 h2;obtain⟨h4,h5,h6⟩:=d2W h1;refine⟨rfl,h5,h6,λc hc=>⟨2,?_⟩⟩;rw[a1H (q:=c0I) (N:=NN) zw 1];exact f0P _ _ k p t.data.toList w.data.toList a n e c s.c s.h o h4 hc _ _;cases hq
theorem a9B (w M m x)(hm:m<2^w):x&&&(2^w*M+m)=2^w*((x/2^w)&&&M)+((x%2^w)&&&m):=by have h0:0<2^w:=Nat.two_pow_pos w;rw[<-Nat.div_add_mod (x&&&(2^w*M+m)) (2^w),Nat.and_div_two_pow,Nat.and_mod_two_pow,Nat.mul_add_div h0,Nat.div_eq_of_lt hm,vC,Nat.mul_add_mod,tL hm]
def rp (m:Nat):Nat->Nat|0=>0|k+1=>256*rp m k+m
def a1 (k n:Nat):Nat:=((n/2)&&&rp 85 k)+(n&&&rp 85 k)
def a2 (k n:Nat):Nat:=((a1 k n/4)&&&rp 51 k)+(a1 k n&&&rp 51 k)
def a3 (k n:Nat):Nat:=(a2 k n/16+a2 k n)&&&rp 15 k
def b1 (b:Nat):Nat:=((b/2)&&&85)+(b&&&85)
def b2 (b:Nat):Nat:=((b1 b/4)&&&51)+(b1 b&&&51)
def b3 (b:Nat):Nat:=(b2 b/16+b2 b)&&&15
theorem a9o (p n)(h:J7 p (upN n)=true)(b)(hb:b<n):p b=true:=(M5 _ _).1 h b (uH.2 hb)
theorem e9n:J7 (λb=>(Nat.beq ((128+b/2)&&&85) ((b/2)&&&85))&&Nat.blt (b1 b) 171&&Nat.ble (b2 b) 68&&Nat.ble (b2 b%16) 4&&Nat.ble (b3 b) 8&&Nat.ble (b3 b) 8) (upN 256)=true:=zw
theorem f0v:J7 (λb=>J7 (λr=>Nat.beq ((64*r+b/4)&&&51) ((b/4)&&&51)) (upN 4)) (upN 256)=true:=zw
theorem f1d:J7 (λb=>J7 (λr=>Nat.beq ((16*r+(b2 b/16+b2 b))&&&15) (b3 b)) (upN 5)) (upN 256)=true:=zw
theorem a7q (b)(hb:b<256):((128+b/2)&&&85)=((b/2)&&&85)/\b1 b<171/\b2 b<=68/\b2 b%16<=4/\b3 b<=8:=by have q:=a9o _ _ e9n b hb;simp only[wI]at q;obtain⟨⟨⟨⟨⟨q1,q2⟩,q3⟩,q4⟩,q5⟩,_⟩:=q;exact⟨wK q1,by simpa[uZ]using q2,vU q3,vU q4,vU q5⟩
theorem e9A (k a b)(hb:b<256):a1 (k+1) (256*a+b)=256*a1 k a+b1 b:=by
 unfold a1 b1;have e1:(256*a+b)/2/256=a/2:=zy;have e2:(256*a+b)/2%256=128*(a%2)+b/2:=zy;have e3:(256*a+b)/256=a:=zy;have e4:(256*a+b)%256=b:=zy;have s1:=a9B 8 (rp 85 k) 85 ((256*a+b)/2) zu;have s2:=a9B 8 (rp 85 k) 85 (256*a+b) zu;simp only[Nat.reducePow,e1,e2,e3,e4]at s1 s2;show((256*a+b)/2&&&(256*rp 85 k+85))+((256*a+b)&&&(256*rp 85 k+85))=_;rw[s1,s2];have:((128*(a%2)+b/2)&&&85)=((b/2)&&&85):=by rcases Nat.mod_two_eq_zero_or_one a with h|h;rw[h];simp;rw[h];exact(a7q b hb).1
 rw[this];omega
theorem d8F (k a b)(hb:b<256):a2 (k+1) (256*a+b)=256*a2 k a+b2 b:=by unfold a2 b2;rw[e9A k a b hb];have hb1:=(a7q b hb).2.1;generalize a1 k a=x at*;have e1:(256*x+b1 b)/4/256=x/4:=zy;have e2:(256*x+b1 b)/4%256=64*(x%4)+b1 b/4:=zy;have e3:(256*x+b1 b)/256=x:=zy;have e4:(256*x+b1 b)%256=b1 b:=zy;have s1:=a9B 8 (rp 51 k) 51 ((256*x+b1 b)/4) zu;have s2:=a9B 8 (rp 51 k) 51 (256*x+b1 b) zu;simp only[Nat.reducePow,e1,e2,e3,e4]at s1 s2;show((256*x+b1 b)/4&&&(256*rp 51 k+51))+((256*x+b1 b)&&&(256*rp 51 k+51))=_;rw[s1,s2];have:((64*(x%4)+b1 b/4)&&&51)=((b1 b/4)&&&51):=wK (a9o _ _ (a9o _ _ f0v (b1 b) zy) (x%4) zy);rw[this];omega
theorem e3e (k n)(hn:n<256^k):a2 k n%16<=4:=by
 cases k with
  |zero=>
   have:n=0:=by simp at hn;omega
   subst this;decide|succ k=>have e:n=256*(n/256)+n%256:=zy;rw[e,d8F k _ _ zy];have:=(a7q (n%256) zy).2.2.2.1;omega
theorem b3A (k a b)(ha:a<256^k)(hb:b<256):a3 (k+1) (256*a+b)=256*a3 k a+b3 b:=by have hl:=e3e k a ha;unfold a3;rw[d8F k a b hb];have hb2:=(a7q b hb).2.2.1;generalize a2 k a=x at*;have e1:((256*x+b2 b)/16+(256*x+b2 b))/256=x/16+x:=zy;have e2:((256*x+b2 b)/16+(256*x+b2 b))%256=16*(x%16)+(b2 b/16+b2 b):=zy;have s1:=a9B 8 (rp 15 k) 15 ((256*x+b2 b)/16+(256*x+b2 b)) zu;simp only[Nat.reducePow,e1,e2]at s1;show(((256*x+b2 b)/16+(256*x+b2 b))&&&(256*rp 15 k+15))=_;rw[s1,wK (a9o _ _ (a9o _ _ f1d b hb) (x%16) zy)]
theorem f0m (n)(hn:n<18446744073709551616):∃c0 c1 c2 c3 c4 c5 c6 c7,c0<256/\c1<256/\c2<256/\c3<256/\c4<256/\c5<256/\c6<256/\c7<256/\n=256*(256*(256*(256*(256*(256*(256*c7+c6)+c5)+c4)+c3)+c2)+c1)+c0/\a3 8 n=256*(256*(256*(256*(256*(256*(256*b3 c7+b3 c6)+b3 c5)+b3 c4)+b3 c3)+b3 c2)+b3 c1)+b3 c0:=by have md:=λm:Nat=>Nat.mod_lt m (show 0<256 by decide);have dm:=λm:Nat=>(Nat.div_add_mod m 256).symm;have z:a3 0 0=0:=zu;have l0:n<256^8:=hn;have l1:n/256<256^7:=zy;generalize g1:n/256=n1 at*;have l2:n1/256<256^6:=zy;generalize g2:n1/256=n2 at*;have l3:n2/256<256^5:=zy;generalize g3:n2/256=n3 at*;have l4:n3/256<256^4:=zy;generalize g4:n3/256=n4 at*;have l5:n4/256<256^3:=zy;generalize g5:n4/256=n5 at*;have l6:n5/256<256^2:=zy;generalize g6:n5/256=n6 at*;have l7:n6/256<256^1:=zy;generalize g7:n6/256=n7 at*;have l8:n7<256:=zy;have e0:=dm n;have e1:=dm n1;have e2:=dm n2;have e3:=dm n3;have e4:=dm n4;have e5:=dm n5;have e6:=dm n6;rw[g1]at e0;rw[g2]at e1;rw[g3]at e2;rw[g4]at e3;rw[g5]at e4;rw[g6]at e5;rw[g7]at e6;have s7:=b3A 0 0 n7 zu l8;simp only[sF,vY,z]at s7;have s6:=b3A 1 n7 (n6%256) l7 (md _);rw[<-e6,s7]at s6;have s5:=b3A 2 n6 (n5%256) l6 (md _);rw[<-e5,s6]at s5;have s4:=b3A 3 n5 (n4%256) l5 (md _);rw[<-e4,s5]at s4;have s3:=b3A 4 n4 (n3%256) l4 (md _);rw[<-e3,s4]at s3;have s2:=b3A 5 n3 (n2%256) l3 (md _);rw[<-e2,s3]at s2;have s1:=b3A 6 n2 (n1%256) l2 (md _);rw[<-e1,s2]at s1;have s0:=b3A 7 n1 (n%256) l1 (md _);rw[<-e0,s1]at s0;refine⟨n%256,n1%256,n2%256,n3%256,n4%256,n5%256,n6%256,n7,md _,md _,md _,md _,md _,md _,md _,l8,?_,s0⟩;rw[<-e6,<-e5,<-e4,<-e3,<-e2,<-e1,<-e0]
def lg8 (b:Nat):Nat:=bcase (Nat.beq b 1) 0 (bcase (Nat.beq b 2) 1 (bcase (Nat.beq b 4) 2 (bcase (Nat.beq b 8) 3 (bcase (Nat.beq b 16) 4 (bcase (Nat.beq b 32) 5 (bcase (Nat.beq b 64) 6 7))))))
theorem e9J (b)(hb:b<256)(h:b3 b=0):b=0:=by have:J7 (λb=>!(Nat.beq (b3 b) 0)||Nat.beq b 0) (upN 256)=true:=zw;have:=a9o _ _ this b hb;rw[h]at this;simpa using this
theorem b3T (b)(hb:b<256)(h:b3 b=1):∃i,i<8/\b=2^i:=by have q:J7 (λb=>!(Nat.beq (b3 b) 1)||(Nat.beq b (2^lg8 b)&&Nat.blt (lg8 b) 8)) (upN 256)=true:=zw;have q2:=a9o _ _ q b hb;rw[h,P9,rz,vE,wI]at q2;exact⟨lg8 b,by simpa[uZ]using q2.2,wK q2.1⟩
def pop (n:Nat):Nat:=
 let x:=a3 8 n
 let y:=x+x / 256
 let z:=y+y / 65536
 (z+z / 4294967296) % 128
theorem d7c (d0 d1 d2 d3 d4 d5 d6 d7)(h0:d0<=8)(h1:d1<=8)(h2:d2<=8)(h3:d3<=8)(h4:d4<=8)(h5:d5<=8)(h6:d6<=8)(h7:d7<=8)(x0 x1 x2 x3 x4 x5 x6 x7 y z)(e0:x0=256*x1+d0)(e1:x1=256*x2+d1)(e2:x2=256*x3+d2)(e3:x3=256*x4+d3)(e4:x4=256*x5+d4)(e5:x5=256*x6+d5)(e6:x6=256*x7+d6)(e7:x7=d7)(hy:y=x0+x0/256)(hz:z=y+y/65536):(z+z/4294967296)%128=d0+d1+d2+d3+d4+d5+d6+d7:=by
 have q1:x0/256=x1:=by rw[e0];omega
 rw[q1]at hy;have q2:y=65536*(x2+x3)+(256*(d1+d2)+(d0+d1)):=zy;have q3:y/65536=x2+x3:=by rw[q2];omega
 rw[q3]at hz;have q4:z=4294967296*(x4+x5+x6+x7)+(16777216*(d3+d4+d5+d6)+65536*(d2+d3+d4+d5)+256*(d1+d2+d3+d4)+(d0+d1+d2+d3)):=zy;have q5:z/4294967296=x4+x5+x6+x7:=by rw[q4,Nat.mul_add_div zu,Nat.div_eq_of_lt zy,vC]
 rw[q5];have q6:z+(x4+x5+x6+x7)=128*(2*(x1+x2+x3+x4+x5+x6+x7))+(d0+d1+d2+d3+d4+d5+d6+d7):=by rw[hz,hy,e0];clear q2 q3 q4 q5 hy hz q1 e0 h0 h1 h2 h3 h4 h5 h6 h7;omega
 have q7:d0+d1+d2+d3+d4+d5+d6+d7<128:=by clear q2 q3 q4 q5 hy hz q1 e0 e1 e2 e3 e4 e5 e6 e7 q6;omega
 rw[q6,Nat.mul_add_mod,tL q7]
theorem e5U (n)(hn:n<18446744073709551616)(h:pop n=1):∃i,i<64/\n=2^i:=by
 obtain⟨c0,c1,c2,c3,c4,c5,c6,c7,h0,h1,h2,h3,h4,h5,h6,h7,e,e3⟩:=f0m n hn;have hs:b3 c0+b3 c1+b3 c2+b3 c3+b3 c4+b3 c5+b3 c6+b3 c7=1:=by rw[<-d7c (b3 c0) (b3 c1) (b3 c2) (b3 c3) (b3 c4) (b3 c5) (b3 c6) (b3 c7) (a7q c0 h0).2.2.2.2 (a7q c1 h1).2.2.2.2 (a7q c2 h2).2.2.2.2 (a7q c3 h3).2.2.2.2 (a7q c4 h4).2.2.2.2 (a7q c5 h5).2.2.2.2 (a7q c6 h6).2.2.2.2 (a7q c7 h7).2.2.2.2 (a3 8 n) _ _ _ _ _ _ _ _ _ e3 rfl rfl rfl rfl rfl rfl rfl rfl rfl];exact h
 clear e3 h hn;generalize k0:b3 c0=d0 at*;generalize k1:b3 c1=d1 at*;generalize k2:b3 c2=d2 at*;generalize k3:b3 c3=d3 at*;generalize k4:b3 c4=d4 at*;generalize k5:b3 c5=d5 at*;generalize k6:b3 c6=d6 at*;generalize k7:b3 c7=d7 at*;have zz:=λ(b d:Nat) (hb:b<256) (k:b3 b=d) (h:d=0)=>e9J b hb (k.trans h);by_cases q0:d0=1;obtain⟨i,hi,hc⟩:=b3T c0 h0 (k0.trans q0);refine⟨i+0,zy,?_⟩;rw[e,zz c1 d1 h1 k1 zy,zz c2 d2 h2 k2 zy,zz c3 d3 h3 k3 zy,zz c4 d4 h4 k4 zy,zz c5 d5 h5 k5 zy,zz c6 d6 h6 k6 zy,zz c7 d7 h7 k7 zy,hc,sH];clear hs e;simp only[sF,vY,vC,Nat.reducePow,vD];by_cases q1:d1=1;obtain⟨i,hi,hc⟩:=b3T c1 h1 (k1.trans q1);refine⟨i+8,zy,?_⟩;rw[e,zz c0 d0 h0 k0 zy,zz c2 d2 h2 k2 zy,zz c3 d3 h3 k3 zy,zz c4 d4 h4 k4 zy,zz c5 d5 h5 k5 zy,zz c6 d6 h6 k6 zy,zz c7 d7 h7 k7 zy,hc,sH];clear hs e;simp only[sF,vY,vC,Nat.reducePow];omega;by_cases q2:d2=1;obtain⟨i,hi,hc⟩:=b3T c2 h2 (k2.trans q2);refine⟨i+16,zy,?_⟩;rw[e,zz c0 d0 h0 k0 zy,zz c1 d1 h1 k1 zy,zz c3 d3 h3 k3 zy,zz c4 d4 h4 k4 zy,zz c5 d5 h5 k5 zy,zz c6 d6 h6 k6 zy,zz c7 d7 h7 k7 zy,hc,sH];clear hs e;simp only[sF,vY,vC,Nat.reducePow];omega;by_cases q3:d3=1;obtain⟨i,hi,hc⟩:=b3T c3 h3 (k3.trans q3);refine⟨i+24,zy,?_⟩;rw[e,zz c0 d0 h0 k0 zy,zz c1 d1 h1 k1 zy,zz c2 d2 h2 k2 zy,zz c4 d4 h4 k4 zy,zz c5 d5 h5 k5 zy,zz c6 d6 h6 k6 zy,zz c7 d7 h7 k7 zy,hc,sH];clear hs e;simp only[sF,vY,vC,Nat.reducePow];omega;by_cases q4:d4=1;obtain⟨i,hi,hc⟩:=b3T c4 h4 (k4.trans q4);refine⟨i+32,zy,?_⟩;rw[e,zz c0 d0 h0 k0 zy,zz c1 d1 h1 k1 zy,zz c2 d2 h2 k2 zy,zz c3 d3 h3 k3 zy,zz c5 d5 h5 k5 zy,zz c6 d6 h6 k6 zy,zz c7 d7 h7 k7 zy,hc,sH];clear hs e;simp only[sF,vY,vC,Nat.reducePow];omega;by_cases q5:d5=1;obtain⟨i,hi,hc⟩:=b3T c5 h5 (k5.trans q5);refine⟨i+40,zy,?_⟩;rw[e,zz c0 d0 h0 k0 zy,zz c1 d1 h1 k1 zy,zz c2 d2 h2 k2 zy,zz c3 d3 h3 k3 zy,zz c4 d4 h4 k4 zy,zz c6 d6 h6 k6 zy,zz c7 d7 h7 k7 zy,hc,sH];clear hs e;simp only[sF,vY,vC,Nat.reducePow];omega;by_cases q6:d6=1;obtain⟨i,hi,hc⟩:=b3T c6 h6 (k6.trans q6);refine⟨i+48,zy,?_⟩;rw[e,zz c0 d0 h0 k0 zy,zz c1 d1 h1 k1 zy,zz c2 d2 h2 k2 zy,zz c3 d3 h3 k3 zy,zz c4 d4 h4 k4 zy,zz c5 d5 h5 k5 zy,zz c7 d7 h7 k7 zy,hc,sH];clear hs e;simp only[sF,vY,vC,Nat.reducePow];omega;obtain⟨i,hi,hc⟩:=b3T c7 h7 (k7.trans zy);refine⟨i+56,zy,?_⟩;rw[e,zz c0 d0 h0 k0 zy,zz c1 d1 h1 k1 zy,zz c2 d2 h2 k2 zy,zz c3 d3 h3 k3 zy,zz c4 d4 h4 k4 zy,zz c5 d5 h5 k5 zy,zz c6 d6 h6 k6 zy,hc,sH];clear hs e;simp only[vC,Nat.reducePow];omega
theorem d7N (i)(hi:i<64):pop (2^i)=1:=by have:J7 (λi=>Nat.beq (pop (2^i)) 1) (upN 64)=true:=zw;exact wK (a9o _ _ this i hi)
theorem d4w (n)(h:n<18446744073709551616):Q0 .u64 (Int.ofNat n)=Int.ofNat n:=b0k .u64 n h
def a6X (n:Nat):Option Nat:=List.rec (motive:=λ_=>Option Nat) none (λi _ ih=>bcase (Nat.beq n (2^i)) (some i) ih) (upN 64)
theorem b9u {n i}(h:a6X n=some i):i<64/\n=2^i:=by
 have key:∀l:List Nat,List.rec (motive:=λ_=>Option Nat) none (λi _ ih=>bcase (Nat.beq n (2^i)) (some i) ih) l=some i->i∈l/\n=2^i:=by intro l;induction l with|nil=>intro h;cases h|cons j l ih=>intro h;cases q:Nat.beq n (2^j)with|true=>have h':bcase (Nat.beq n (2^j)) (some j) (List.rec (motive:=λ_=>Option Nat) none (λi _ ih=>bcase (Nat.beq n (2^i)) (some i) ih) l)=some i:=h;rw[q]at h';cases h';exact⟨um,wK q⟩|false=>have h':bcase (Nat.beq n (2^j)) (some j) (List.rec (motive:=λ_=>Option Nat) none (λi _ ih=>bcase (Nat.beq n (2^i)) (some i) ih) l)=some i:=h;rw[q]at h';obtain⟨h1,h2⟩:=ih h';exact⟨vJ _ h1,h2⟩
 obtain⟨h1,h2⟩:=key (upN 64) h;exact⟨uH.1 h1,h2⟩
theorem d0B {n}(h:a6X n=none)(i)(hi:i<64):n≠2^i:=by
 have key:∀l:List Nat,List.rec (motive:=λ_=>Option Nat) none (λi _ ih=>bcase (Nat.beq n (2^i)) (some i) ih) l=none->∀i∈l,n≠2^i:=by intro l;induction l with|nil=>intro _ i hi;cases hi|cons j l ih=>intro h i hi;have h':bcase (Nat.beq n (2^j)) (some j) (List.rec (motive:=λ_=>Option Nat) none (λi _ ih=>bcase (Nat.beq n (2^i)) (some i) ih) l)=none:=h;cases q:Nat.beq n (2^j)with|true=>rw[q]at h';cases h'|false=>rw[q]at h';rcases uy.1 hi with rfl|hm;intro e;rw[e,P9]at q;cases q;exact ih h' i hm
 exact key (upN 64) h i (uH.2 hi)
theorem d2X (n)(hn:n<18446744073709551616):decide (pop n=1)=(a6X n).isSome:=by cases h:a6X n with|some i=>obtain⟨h1,rfl⟩:=b9u h;rw[d7N i h1];rfl|none=>show _=false;rw[uz];intro e;obtain⟨i,h1,h2⟩:=e5U n hn e;exact d0B h i h1 h2
theorem b4F (p T t x y n m)(h:m<=64):a0L p T .shr t x y (.int .u64 (.ofNat n)) (.int .u64 (.ofNat m))=M.pure (.int .u64 (.ofNat (n/2^m))):=by
 rw[R8 p T t x y .u64 .u64 (.ofNat n) m h];have e:(Int.ofNat n).fdiv (2^m)=Int.ofNat (n/2^m):=by have:=Int.ofNat_fdiv n (2^m);rw[Int.natCast_pow]at this;exact this.symm
 rw[e]
theorem f1n (p T t x y n m)(h1:n<18446744073709551616)(h2:m<9223372036854775808):a0L p T .and t x y (.int .i64 (.ofNat n)) (.int .i64 (.ofNat m))=M.pure (.int .i64 (.ofNat (Nat.land n m))):=by refine b2g p T rfl rfl ?_;show some (Value.int .i64 (Q0 .i64 (.ofNat (Nat.land (Nat.mod n (Nat.pow 2 64)) (Nat.mod m (Nat.pow 2 64))))))=_;rw[show Nat.mod n (Nat.pow 2 64)=n from tL h1,show Nat.mod m (Nat.pow 2 64)=m from tL (sG h2 zu),b5L (Nat.land n m) (uF (show Nat.land n m<=m from sZ) h2)]
theorem b4C (p T t x y n m)(h:n+m<18446744073709551616):a0L p T .add t x y (.int .u64 (.ofNat n)) (.int .u64 (.ofNat m))=M.pure (.int .u64 (.ofNat (n+m))):=by rw[J6,show Int.ofNat n+Int.ofNat m=Int.ofNat (n+m)from rfl,d4w _ h]
theorem f0K:rp 85 8=6148914691236517205:=zu
theorem f0J:rp 51 8=3689348814741910323:=zu
theorem f1r:rp 15 8=1085102592571150095:=zu
theorem f1t (N call n)(h:n<18446744073709551616):c0z o8 N call (.int .u64 (.ofNat n))=M.pure (.ret (.int .i64 (.ofNat (pop n)))):=by
 have u1:a1 8 n=Nat.land (n/2^1) 6148914691236517205+Nat.land n 6148914691236517205:=by unfold a1;rw[f0K];rfl
 have u2:a2 8 n=Nat.land (a1 8 n/2^2) 3689348814741910323+Nat.land (a1 8 n) 3689348814741910323:=by unfold a2;rw[f0J];rfl
 have u3:a3 8 n=Nat.land (a2 8 n/2^4+a2 8 n) 1085102592571150095:=by unfold a3;rw[f1r];rfl
 have b1:Nat.land (n/2^1) 6148914691236517205<=6148914691236517205:=sZ;have b2:Nat.land n 6148914691236517205<=6148914691236517205:=sZ;have b3:Nat.land (a1 8 n/2^2) 3689348814741910323<=3689348814741910323:=sZ;have b4:Nat.land (a1 8 n) 3689348814741910323<=3689348814741910323:=sZ;have b5:Nat.land (a2 8 n/2^4+a2 8 n) 1085102592571150095<=1085102592571150095:=sZ;have l1:n/2^1<18446744073709551616:=uF (nZ _ _) h;have l2:a1 8 n<18446744073709551616:=by rw[u1];omega
 have l3:a1 8 n/2^2<18446744073709551616:=uF (nZ _ _) l2;have l4:a2 8 n<=7378697629483820646:=by rw[u2];omega
 have l5:a2 8 n/2^4+a2 8 n<18446744073709551616:=zy;have l6:a3 8 n<=1085102592571150095:=by rw[u3];exact b5
 have e1:Q0 .i64 (Int.ofNat ((a3 8 n+a3 8 n/2^8+(a3 8 n+a3 8 n/2^8)/2^16)+(a3 8 n+a3 8 n/2^8+(a3 8 n+a3 8 n/2^8)/2^16)/2^32))=Int.ofNat ((a3 8 n+a3 8 n/2^8+(a3 8 n+a3 8 n/2^8)/2^16)+(a3 8 n+a3 8 n/2^8+(a3 8 n+a3 8 n/2^8)/2^16)/2^32):=b5L _ zy;have k1:a3 8 n/2^8<=1085102592571150095/256:=zy;have e2:=λ(t:TypeId) (x y:Operand)=>f1n Tryz.prog tab t x y ((a3 8 n+a3 8 n/2^8+(a3 8 n+a3 8 n/2^8)/2^16)+(a3 8 n+a3 8 n/2^8+(a3 8 n+a3 8 n/2^8)/2^16)/2^32) 127 zy zu;have e3:Nat.land ((a3 8 n+a3 8 n/2^8+(a3 8 n+a3 8 n/2^8)/2^16)+(a3 8 n+a3 8 n/2^8+(a3 8 n+a3 8 n/2^8)/2^16)/2^32) 127=pop n:=(pV _ 7).trans rfl;rw[e4s];simp only[O5];simp only[V.e8n,b4F,b1Z _ _ _ _ _ _ _ l1 (by decide:6148914691236517205<18446744073709551616),b1Z _ _ _ _ _ _ _ h (by decide:6148914691236517205<18446744073709551616),(by decide:(1:Nat)<=64)];rw[b4C _ _ _ _ _ _ _ zy,<-u1];simp only[V.e8n,b4F,b1Z _ _ _ _ _ _ _ l3 (by decide:3689348814741910323<18446744073709551616),b1Z _ _ _ _ _ _ _ l2 (by decide:3689348814741910323<18446744073709551616),(by decide:(2:Nat)<=64)];rw[b4C _ _ _ _ _ _ _ zy,<-u2];simp only[V.e8n,b4F,(by decide:(4:Nat)<=64)];rw[b4C _ _ _ _ _ _ _ l5];simp only[V.e8n,b1Z _ _ _ _ _ _ _ l5 (by decide:1085102592571150095<18446744073709551616)];rw[<-u3];simp only[V.e8n,b4F,(by decide:(8:Nat)<=64)];rw[b4C _ _ _ _ _ _ _ zy];simp only[V.e8n,b4F,(by decide:(16:Nat)<=64)];rw[b4C _ _ _ _ _ _ _ zy];simp only[V.e8n,b4F,(by decide:(32:Nat)<=64)];rw[b4C _ _ _ _ _ _ _ zy];simp only[V.e8n,a0Q,e1,e2,e3]
def b8f (z:Int):Option Value:=match z with|.ofNat n=>bcase (Nat.blt n 18446744073709551616) (some (.int .i64 (.ofNat (pop n)))) none|.negSucc _=>none
theorem d1P {z v}(h:b8f z=some v):∃n,n<18446744073709551616/\z=.ofNat n/\v=.int .i64 (.ofNat (pop n)):=by
 cases z with
  |ofNat n=>have h':bcase (Nat.blt n 18446744073709551616) (some (Value.int .i64 (.ofNat (pop n)))) none=some v:=h;cases q:Nat.blt n 18446744073709551616 with|true=>rw[q]at h';cases h';exact⟨n,yH,rfl,rfl⟩|false=>rw[q]at h';cases h'
  |negSucc n=>cases h
theorem d8g (n)(h:n<18446744073709551616):b8f (.ofNat n)=some (.int .i64 (.ofNat (pop n))):=by show bcase (Nat.blt n 18446744073709551616) _ _=_;rw[I1 h];rfl
theorem e2k:K3 Tryz.prog tab (I5 mL) 187 (X1 .u64 b8f):=a8x V7 M9 pL4 Tryz.func187 zw rfl λz v h=>by obtain⟨n,hn,rfl,rfl⟩:=d1P h;exact⟨rfl,2,by rw[Y7 (q:=c0z) (N:=NN) zw 1];exact a1a.pure (f1t _ _ n hn)⟩
def c8b (z:Int):Option Value:=match z with
 |.ofNat n=>match a6X n with|some i=>some (.int .i64 (.ofNat i))|none=>none
 |.negSucc _=>none
theorem e0X (mL):J7 (λi=>b3H (o9 a7m 5 188 [.int .u64 (.ofNat (2^i))] (Go.V.a3p (I5 mL))) i) (upN 64)=true:=zw
theorem e1R:K3 Tryz.prog tab (I5 mL) 188 (X1 .u64 c8b):=a8K λz v h=>by
 cases z with
  |ofNat n=>have h':(match a6X n with|some i=>some (Value.int .i64 (.ofNat i))|none=>none)=some v:=h;cases q:a6X n with|some i=>rw[q]at h';cases h';obtain⟨h1,rfl⟩:=b9u q;obtain⟨s,hr⟩:=b2y ((M5 _ _).1 (e0X mL) i (uH.2 h1));exact⟨rfl,a5D V7 M9 a6G a3e a5M b2H Tryz.func188 zw rfl rfl rfl hr⟩|none=>rw[q]at h';cases h'
  |negSucc n=>cases h
end
end Go.Proofs.YtmomonnlmbljoaaGreatDoor
section
end
section
namespace Go.Proofs.YtmomonnlmbljoaaGreatDoor
open Go.Shelf Go.RowKit Go.Sort Go.Lib
set_option maxHeartbeats 6400000 in set_option maxRecDepth 100000 in theorem b9D (u:Nat)(hu64:u<18446744073709551616)(w:World)(htab:Lib.TabIs Tryz.prog w "internal/strconv.uint64pow10" .u64 Lib.pow10Tab):Calls Tryz.prog 126 #[.int .u64 u,.int .i64 10] w λe w'=>e=.returned (.string ⟨(Lib.decDigits u).toArray⟩)/\∃k os,w'=grow (w.drewN k) os:=by
 have e167:∀args w,(callFunc 167 args).run Tryz.prog w=.ok (.enter 167 args) w:=nY Tryz.func167 zw rfl;have e168:∀args w,(callFunc 168 args).run Tryz.prog w=.ok (.enter 168 args) w:=nY Tryz.func168 zw rfl;have e169:∀args w,(callFunc 169 args).run Tryz.prog w=.ok (.enter 169 args) w:=nY Tryz.func169 zw rfl;by_cases hs:u<100;have hwr:IntKind.i64.wrap (u:Int)=(u:Int):=by rw[IntKind.wrap_i64];omega
 go_enter Tryz.func126,Tryz.ntmps126;go_wp2_with (go_at_call 167;refine(Any.internal_strconv_small {Tryz.lFormatInt with} u hs _).mono ?_;rintro e w' ⟨rfl,rfl⟩);go_ret;exact⟨rfl,0,#[],by simp[World.drewN_zero]⟩;have hu1:1<=u:=zy;have hnd20:Lib.nDigits u<=20:=by have:=Lib.numDigits_eq u hu1 hu64;split at this<;>omega
 have hb3:Lib.nDigits u<=24:=zy;have hal:Tryz.prog.arrayLen 222=24:=by simp[Program.arrayLen,qf]
 have hsl1:∀W,(Instr.sliceAt 222 (.pointer (some ⟨w.heap.size,0,none⟩)) none (some (.int .i64 (Lib.nDigits u:Int))) none).run Tryz.prog W=.ok (.slice (some ⟨w.heap.size,0,none⟩) (Lib.nDigits u) 24) W:=λW=>by rw[run_sliceAt_array_h W 222 ⟨w.heap.size,0,none⟩ (by simp[Program.arrayLen,Program.elem,qf]) .i64 (Lib.nDigits u:Int) zy (by rw[hal];omega)];go_simp
 have hH0:=Lib.holds_zero0 w 222 (Lib.nDigits u) zy;have hfmt:=Any.internal_strconv_formatBase10 {Tryz.lFormatInt with} w.heap.size 0 24 u (Array.replicate (Lib.nDigits u) 0) (w.alloc (.cells Lib.zeros24 222)) hH0 (by rw[rC];exact Lib.lt_pow_nDigits u) hu64 (by rw[rC];omega);rw[rC]at hfmt;have HH0:=Lib.hid hH0;clear hH0;go_enter Tryz.func126,Tryz.ntmps126;go_wp2_with (first|(go_at_call 168;refine(Any.internal_strconv_numDigits {Tryz.lFormatInt with} u hu1 hu64 _ (Lib.tabIs_alloc htab _)).mono ?_;rintro e w' ⟨rfl,rfl⟩));go_at_call 169;refine hfmt.mono ?_;rintro e w' ⟨rfl,k,v',dk,rfl,hF⟩;have hcv:(convert 149 9 (.slice (some ⟨w.heap.size,0,none⟩) (Lib.nDigits u) 24)).run Tryz.prog ((putRow (λ(b:UInt8)=>Value.int .u8 (b.toNat:Int)) (w.alloc (.cells Lib.zeros24 222)) w.heap.size 0 dk).drewN k)=.ok (.string ⟨(Lib.decDigits u).toArray⟩) ((putRow (λ(b:UInt8)=>Value.int .u8 (b.toNat:Int)) (w.alloc (.cells Lib.zeros24 222)) w.heap.size 0 dk).drewN k):=by have h:=run_convert_bytes_back (P:=Tryz.prog) ((putRow (λ(b:UInt8)=>Value.int .u8 (b.toNat:Int)) (w.alloc (.cells Lib.zeros24 222)) w.heap.size 0 dk).drewN k) 149 9 5 ⟨w.heap.size,0,none⟩ 24 (Lib.decDigits u) rU uM tK (λj hj=>by rw[Lib.row_is_numeral hF j hj,Lib.add_plain,World.cell?_drewN];exact cell?_putRow (λ(b:UInt8)=>Value.int .u8 (b.toNat:Int)) _ w.heap.size 0 _ dk HH0.out (by rw[hF.size,rC]) j (by rw[hF.size];rw[Lib.decDigits_length]at hj;exact hj));rw[Lib.decDigits_length]at h;exact h
 go_wp2;go_ret;obtain⟨os,eo⟩:=Lib.fin_at w (.cells Lib.zeros24 222) dk k 0;exact⟨rfl,k,os,eo⟩
end Go.Proofs.YtmomonnlmbljoaaGreatDoor
end
namespace Go.Proofs.YtmomonnlmbljoaaGreatDoor
open Go.V Go.RowKit Go.Shelf Go.Proofs
variable {mL:Int}
namespace S
theorem b2q (w k os):Below w.heap.size w (Sort.grow (w.drewN k) os):=⟨rfl,rfl,rfl,by simp[Sort.grow,World.drewN],λi hi=>by show(w.heap++os)[i]?=_;rw[Array.getElem?_append_left hi]⟩
theorem d1J:Tryz.prog.globalNamed "internal/strconv.uint64pow10"=some 2:=zw
theorem c0W:b0s=Lib.pow10Tab.map λz=>Value.int .u64 z:=zw
theorem b5n {w}(h:LaidV (I5 mL) w):Lib.TabIs Tryz.prog w "internal/strconv.uint64pow10" .u64 Lib.pow10Tab:=by obtain⟨t,fz,e⟩:=h.row 2 b0s rfl (by rw[c0W];decide);show w.var? Tryz.prog _=_;unfold World.var?;rw[d1J];show(match w.heap[2]? with|some (.cells cs _ _)=>some cs|_=>none)=_;rw[e,c0W]
def b4s (bs:List Value):Option Value:=match bs with|[.int .i64 n]=>bcase (decide (-9223372036854775808<=n)&&decide (n<=9223372036854775807)) (some (.string ⟨⟨Lib.itoa n⟩⟩)) none|_=>none
def b1H (bs:List Value):Option Value:=match bs with|[.int .i64 n,.int .i64 10]=>bcase (decide (-9223372036854775808<=n)&&decide (n<=9223372036854775807)) (some (.string ⟨⟨Lib.itoa n⟩⟩)) none|_=>none
def a4I (bs:List Value):Option Value:=match bs with|[.int .u64 (.ofNat u),.int .i64 10]=>bcase (Nat.blt u 18446744073709551616) (some (.string ⟨⟨Lib.decDigits u⟩⟩)) none|_=>none
theorem d2L:K3 Tryz.prog tab (I5 mL) 37 (λbs=>M.lift (b4s bs)):=a4j λbs v h=>by unfold b4s at h;split at h;rename_i n;obtain⟨h1,rfl⟩:=a3M h;simp only[wI,vF]at h1;refine⟨rfl,rfl,λw hL=>⟨V5 Tryz.func37 zw rfl,?_⟩⟩;refine(Any.strconv_Itoa Tryz.lItoa n h1.1 h1.2 w (b5n hL)).mono λe w' hq=>?_;obtain⟨rfl,k,os,rfl⟩:=hq;exact⟨rfl,b2q w k os⟩;cases h
theorem c6J:K3 Tryz.prog tab (I5 mL) 95 (λbs=>M.lift (b1H bs)):=a4j λbs v h=>by unfold b1H at h;split at h;rename_i n;obtain⟨h1,rfl⟩:=a3M h;simp only[wI,vF]at h1;refine⟨rfl,rfl,λw hL=>⟨V5 Tryz.func95 zw rfl,?_⟩⟩;refine(Any.strconv_FormatInt_10 Tryz.lFormatInt n h1.1 h1.2 w (b5n hL)).mono λe w' hq=>?_;obtain⟨rfl,k,os,rfl⟩:=hq;exact⟨rfl,b2q w k os⟩;cases h
theorem c3K:K3 Tryz.prog tab (I5 mL) 126 (λbs=>M.lift (a4I bs)):=a4j λbs v h=>by unfold a4I at h;split at h;rename_i u;obtain⟨h1,rfl⟩:=a3M h;refine⟨rfl,rfl,λw hL=>⟨V5 Tryz.func126 zw rfl,?_⟩⟩;refine(b9D u (by simpa[uZ]using h1) w (b5n hL)).mono λe w' hq=>?_;obtain⟨rfl,k,os,rfl⟩:=hq;exact⟨rfl,b2q w k os⟩;cases h
end S
namespace S
attribute [local congr] y8 x9 C8 A9 C9
def idxB (a:Int):Bool:=decide (0<=a)&&decide (a<4294967296)
theorem t86 (N call a):c6y o8 N call (.int .i64 a)=M.pure (.ret (.bool (idxB a))):=by simp only[f0R,O5,U0,M4,L8,K8,K9,X3,Y0,a2s,G5,V.e8n,G6,a1C];rfl
theorem t59 (N call a):c6K o8 N call (.int .i64 a)=M.pure (.ret (.bool (idxB a))):=by simp only[e8T,O5,U0,M4,L8,K8,K9,X3,Y0,a2s,G5,V.e8n,G6,a1C];rfl
theorem t88 (N call a):c7I o8 N call (.int .i64 a)=M.pure (.ret (.bool (a1g a))):=by simp only[f0Y,O5,U0,M4,L8,K8,K9,X3,Y0,a2s,G5,V.e8n,a5o,a1C];rfl
theorem t61 (N call a):c7q o8 N call (.int .i64 a)=M.pure (.ret (.bool (a1g a))):=by simp only[e9Q,O5,U0,M4,L8,K8,K9,X3,Y0,a2s,G5,V.e8n,a5o,a1C];rfl
theorem t43 (N call a):c7b o8 N call (.int .i64 a)=M.pure (.ret (.string ⟨⟨bcase (decide (a=3)) [102,117,110,99] [101,120,116,101,114,110]⟩⟩)):=by simp only[e8S,O5,L8,J9,V.e8n,a7R,b1q,R9];rfl
theorem b9j (m)(h:m<10):Lib.decDigits m=[UInt8.ofNat (48+m)]:=by rw[Lib.decDigits,dif_pos h]
theorem d6M (m)(h:¬m<10):Lib.decDigits m=Lib.decDigits (m/10)++[UInt8.ofNat (48+m%10)]:=by rw[Lib.decDigits,dif_neg h]
theorem c4w (k):∀m,m<10^(k+1)->(Lib.decDigits m).length<=k+1:=by induction k with|zero=>intro m h;rw[b9j m zy];simp|succ k ih=>intro m h;by_cases h1:m<10;rw[b9j m h1];simp;rw[d6M m h1];have:=ih (m/10) (by rw[Nat.pow_succ]at h;omega);simp;omega
theorem a7z (m)(h:m<18446744073709551616):(Lib.decDigits m).length<=20:=c4w 19 m zy
theorem d3t (n):Lib.itoa (Int.ofNat n)=Lib.decDigits n:=by unfold Lib.itoa;rw[vN xm];rfl
theorem d3k (n):Lib.itoa (Int.negSucc n)=45::Lib.decDigits (n+1):=by unfold Lib.itoa;rw[vG (Int.negSucc_lt_zero n)];rfl
theorem a8X (z)(h1:-9223372036854775808<=z)(h2:z<=18446744073709551615):z8 (Lib.itoa z)<=21:=by rw[G8];cases z with|ofNat n=>rw[d3t];have:=a7z n (by simp only[vB]at h2;omega);omega|negSucc n=>rw[d3k];have:=a7z (n+1) zy;simp;omega
def sgn (w n:Nat):Int:=if n<2^(w-1)then(n:Int)else(n:Int)-2^w
def b0b (z w:Int):Option Value:=match z with
 |.ofNat n=>match w with|.ofNat w=>bcase ((Nat.beq w 32&&Nat.blt n 4294967296)||(Nat.beq w 64&&Nat.blt n 18446744073709551616)) (some (.string ⟨⟨Lib.itoa (sgn w n)⟩⟩)) none|.negSucc _=>none
 |.negSucc _=>none
theorem a4J (k n):Q0 k n=k.wrap n:=V.a4J k n
theorem b5R (n)(hn:n<4294967296):-9223372036854775808<=sgn 32 n:=yl
theorem b5E (n)(hn:n<4294967296):sgn 32 n<=9223372036854775807:=yl
theorem c6s (n)(hn:n<4294967296):(Q0 .i64 (Int.ofNat (n*4294967296))).fdiv 4294967296=sgn 32 n:=xZ
theorem c8C (n)(hn:n<4294967296)(t x y):a0L Tryz.prog tab .shl t x y (.int .u64 (.ofNat n)) (.int .i64 (.ofNat 32))=M.pure (.int .u64 (.ofNat (n*4294967296))):=by rw[a7u _ _ _ _ _ _ _ _ _ zu,show(2:Nat)^32=4294967296 from rfl,a7H .u64 _ (by show n*4294967296<18446744073709551616;omega)]
theorem d0P (n)(hn:n<4294967296)(t x y):a0L Tryz.prog tab .shr t x y (.int .i64 (Q0 .i64 (Int.ofNat (n*4294967296)))) (.int .i64 (.ofNat 32))=M.pure (.int .i64 (sgn 32 n)):=by rw[R8 _ _ _ _ _ _ _ _ _ zu,show(2:Int)^32=4294967296 from rfl,c6s n hn]
theorem e0t (N call n)(hn:n<4294967296)(hc:∀z,-9223372036854775808<=z->z<=9223372036854775807->call 95 [.int .i64 z,.int .i64 (.ofNat 10)]=M.pure (.ret (.string ⟨⟨Lib.itoa z⟩⟩))):b7V o8 N call (.int .u64 (.ofNat n)) (.int .i64 (.ofNat 32))=M.pure (.ret (.string ⟨⟨Lib.itoa (sgn 32 n)⟩⟩)):=by have e4:=hc _ (b5R n hn) (b5E n hn);have e2:=c8C n hn;have e5:=d0P n hn;generalize n*4294967296=b at e2 e5;have e1:Q0 .i64 (Int.ofNat 64-Int.ofNat 32)=Int.ofNat 32:=zu;have b1:decide (Int.ofNat 32<Int.ofNat 1)=false:=zu;have b2:decide (Int.ofNat 64<Int.ofNat 32)=false:=zu;simp only[d9w,O5,U0,V6,e1,b1,b2,I7,A8,L8,K8,K9,a4U,X3,Y0,O9,J9,G5,V.e8n,G6,M6,S9,a0Q,e2,e5,e4,b7K]
theorem e3G (N call n)(hn:n<18446744073709551616)(hc:∀z,-9223372036854775808<=z->z<=9223372036854775807->call 95 [.int .i64 z,.int .i64 (.ofNat 10)]=M.pure (.ret (.string ⟨⟨Lib.itoa z⟩⟩))):b7V o8 N call (.int .u64 (.ofNat n)) (.int .i64 (.ofNat 64))=M.pure (.ret (.string ⟨⟨Lib.itoa (sgn 64 n)⟩⟩)):=by have e1:Q0 .i64 (Int.ofNat 64-Int.ofNat 64)=Int.ofNat 0:=zu;have e2:Q0 .u64 (Int.ofNat n)=Int.ofNat n:=a7H .u64 _ hn;have e3:(Q0 .i64 (Int.ofNat n)).fdiv 1=sgn 64 n:=xZ;have e4:call 95 [.int .i64 (sgn 64 n),.int .i64 (.ofNat 10)]=M.pure (.ret (.string ⟨⟨Lib.itoa (sgn 64 n)⟩⟩)):=hc _ yl yl;have b1:decide (Int.ofNat 64<Int.ofNat 1)=false:=zu;have b2:decide (Int.ofNat 64<Int.ofNat 64)=false:=zu;simp(maxSteps:=9999999) (disch:=try exact dx)only[gD,d9w,e1,b1,b2,I7,L8,K8,K9,O9,Nat.reducePow,Int.reducePow,G6,M6,S9,a7u,R8,a0Q,vD,e2,e3,e4]
def U8 (m:Nat):List UInt8:=32::Lib.decDigits m
def a0s (m:Nat):List UInt8:=bcase (Nat.beq m 0) [] (U8 m)
theorem U1 (a b):decide (Int.ofNat a=Int.ofNat b)=Nat.beq a b:=by
 cases h:Nat.beq a b with
  |true=>rw[wK h];simp|false=>
   have:a≠b:=λe=>by rw[e]at h;simp at h
   simp only[uz,vB];omega
def a6J (m n:Nat):List UInt8:=bcase (Nat.beq m 0&&Nat.beq n 0) [] (U8 m++U8 n)
theorem a7K (m)(hm:m<18446744073709551616):z8 (U8 m)<=21:=by rw[G8];have:=a7z m hm;simp[U8];omega
theorem c3A {op}(hop:op=.eql\/op=.neq)(x y a b d a' b' d'):a0L Tryz.prog tab op 26 x y (.agg ⟨[.int .i64 a,.int .i64 b,.int .i64 d]⟩) (.agg ⟨[.int .i64 a',.int .i64 b',.int .i64 d']⟩)=M.pure (.bool (b5y op (a8r [a,b,d] [a',b',d']))):=by refine c4n (fs:=Tryz.prog.fieldsOf 26) hop zw zw zw ?_ rfl rfl (λi hi=>?_);refine⟨vS zw,zw,⟨.i64,zw⟩,⟨.i64,rfl,rfl⟩,?_⟩;refine⟨vS zw,zw,⟨.i64,zw⟩,⟨.i64,rfl,rfl⟩,?_⟩;refine⟨vS zw,zw,⟨.i64,zw⟩,⟨.i64,rfl,rfl⟩,?_⟩;trivial;have:tab.types.get 26=some d4o:=zw;rw[this]at hi;rw[<-sQ hi];have e:d4o.und=.struct (Tryz.prog.fieldsOf 26):=zw;exact e
theorem c2n (x y a b d a' b' d'):a0L Tryz.prog tab .eql 26 x y (.agg ⟨[.int .i64 a,.int .i64 b,.int .i64 d]⟩) (.agg ⟨[.int .i64 a',.int .i64 b',.int .i64 d']⟩)=M.pure (.bool (decide (a=a')&&(decide (b=b')&&(decide (d=d')&&true)))):=c3A (Or.inl rfl) x y a b d a' b' d'
theorem b3M (x y a b d a' b' d'):a0L Tryz.prog tab .neq 26 x y (.agg ⟨[.int .i64 a,.int .i64 b,.int .i64 d]⟩) (.agg ⟨[.int .i64 a',.int .i64 b',.int .i64 d']⟩)=M.pure (.bool (!(decide (a=a')&&(decide (b=b')&&(decide (d=d')&&true))))):=c3A (Or.inr rfl) x y a b d a' b' d'
theorem d0a:Int.ofNat 0=0:=rfl
theorem c1I:Int.ofNat 1=1:=rfl
theorem c1t:Int.ofNat 2=2:=rfl
def blkB (k v i:Int):Bool:=bcase (decide (k=0)) (decide (v=0)&&decide (i=0)) (bcase (decide (k=1)) (a1g v&&decide (i=0)) (decide (k=2)&&decide (v=0)&&idxB i))
theorem t87 (N call)(h86:∀n,call 86 [.int .i64 n]=M.pure (.ret (.bool (idxB n))))(h88:∀n,call 88 [.int .i64 n]=M.pure (.ret (.bool (a1g n))))(k v i):a1a (c5M o8 N call (.agg ⟨[.int .i64 k,.int .i64 v,.int .i64 i]⟩)) (.bool (blkB k v i)):=by intro c h r w;simp(maxSteps:=9999999) (disch:=try exact dx)only[gD,e9j,c2n,h86,h88,a2z,a5G,M4,K8,K9,a2K,a2s,a7R,a8U,a4r,d0a,c1I,c1t,a3Z];refine l9.done ⟨?_,λj hj=>zU⟩;unfold blkB;generalize decide (k=0)=b0;generalize decide (k=1)=b1;generalize decide (k=2)=b2;cases b0<;>cases b1<;>cases b2<;>cases decide (v=0)<;>rfl
theorem t58 (N call)(h59:∀n,call 59 [.int .i64 n]=M.pure (.ret (.bool (idxB n))))(h61:∀n,call 61 [.int .i64 n]=M.pure (.ret (.bool (a1g n))))(k v i):a1a (c6C o8 N call (.agg ⟨[.int .i64 k,.int .i64 v,.int .i64 i]⟩)) (.bool (blkB k v i)):=by intro c h r w;simp(maxSteps:=9999999) (disch:=try exact dx)only[gD,e9D,h59,h61,a2z,a5G,M4,K8,K9,a2s,a7R,a8U,d0a,c1I,c1t];refine l9.done ⟨?_,λj hj=>zU⟩;unfold blkB;generalize decide (k=0)=b0;generalize decide (k=1)=b1;generalize decide (k=2)=b2;cases b0<;>cases b1<;>cases b2<;>cases decide (v=0)<;>rfl
def a7a (k v i:Int):List UInt8:=bcase (decide (k=1)) (bcase (a1g v) (40::114::101::115::117::108::116::32::(U6 v++[41])) []) (bcase (decide (k=2)) (40::116::121::112::101::32::(Lib.itoa i++[41])) [])
theorem c7L (v):(!(beqBytes (U6 v) []))=a1g v:=by
 by_cases h:1<=v/\v<=4;have:v=1\/v=2\/v=3\/v=4:=zy;rcases this with rfl|rfl|rfl|rfl<;>rfl;have e:a1g v=false:=by simp only[a1g,Bool.and_eq_false_iff,uz];omega
 rw[e];unfold U6;rw[show decide (v=1)=false by simp;omega,show decide (v=2)=false by simp;omega,show decide (v=3)=false by simp;omega,show decide (v=4)=false by simp;omega];rfl
theorem a9a (v):z8 (U6 v)<=9:=by unfold U6;cases decide (v=1)<;>cases decide (v=2)<;>cases decide (v=3)<;>cases decide (v=4)<;>decide
theorem t14 (N call)(h40:∀n,call 40 [.int .i64 n]=M.pure (.ret (.string ⟨⟨U6 n⟩⟩)))(k v i)(hi1:-9223372036854775808<=i)(hi2:i<=9223372036854775807)(h37:call 37 [.int .i64 i]=M.pure (.ret (.string ⟨⟨Lib.itoa i⟩⟩))):a1a (c7s o8 N call (.agg ⟨[.int .i64 k,.int .i64 v,.int .i64 i]⟩)) (.string ⟨⟨a7a k v i⟩⟩):=by intro c h r w;have l1:=a8X i hi1 zy;have l2:=a9a v;simp(maxSteps:=9999999) (disch:=try exact dx)only[gD,f1q,h40,h37,a2z,a5G,L8,a7R,b1q,O6,a2j,c1I,c1t,c7L];refine l9.done ⟨?_,λj hj=>zU⟩;unfold a7a;simp only[E9]
def Y5 (z:Int):List UInt8:=match R5 z O0 with|some r=>r.2.1|none=>[]
theorem c7C (z:Int):∀l:List a4h,(match(l.map λr=>(r.1,r.2.1)).find? (λx=>(Int.ofNat x.1)==z)with|some x=>(⟨⟨x.2⟩⟩:ByteArray)|none=>ByteArray.empty)=⟨⟨match R5 z l with|some r=>r.2.1|none=>[]⟩⟩:=by
 intro l;induction l with
  |nil=>rfl|cons r l ih=>
   rw[uh,nX];show _=(⟨⟨match bcase (decide (Int.ofNat r.1=z)) (some r) (R5 z l)with|some r=>r.2.1|none=>[]⟩⟩:ByteArray);by_cases h:Int.ofNat r.1=z;have h':(Int.ofNat r.1==z)=true:=by rw[nP];exact h
   simp only[h',wJ h,D8];have h':(Int.ofNat r.1==z)=false:=by rw[beq_eq_false_iff_ne];exact h
   simp only[h',wL h,A8];exact ih
theorem c3n:a0O=K4 (λr=>(r.1,r.2.1)) O0:=zw
theorem d0E (z):b1K z=⟨⟨Y5 z⟩⟩:=by unfold b1K;rw[c3n,a0N];exact c7C z O0
theorem e7E:K3 Tryz.prog tab (I5 mL) 35 (X1 .i64 λz=>some (.string ⟨⟨Y5 z⟩⟩)):=a8K λz v h=>by cases h;refine⟨rfl,λw hL=>⟨V5 Tryz.func35 zw rfl,?_⟩⟩;refine(pq.1 (c5v 3 zy z w hL)).mono λe W' hq=>?_;obtain⟨rfl,hb⟩:=hq;exact⟨by rw[d0E],hb⟩
theorem c2T (z):∀(l),R5 z l=none->∀r∈l,Int.ofNat r.1≠z:=by intro l;induction l with|nil=>intro _ r h;cases h|cons q l ih=>intro h r hr;have h':bcase (decide (Int.ofNat q.1=z)) (some q) (R5 z l)=none:=h;by_cases hq:Int.ofNat q.1=z;rw[wJ hq]at h';cases h';rw[wL hq]at h';rcases uy.1 hr with rfl|hr;exact hq;exact ih h' r hr
theorem d3b:J7 (λr:a4h=>!(beqBytes r.2.1 [])) O0=true:=zw
theorem d1M (z):(!(beqBytes (Y5 z) []))=J3 z:=by unfold Y5 J3;cases h:R5 z O0 with|none=>rfl|some r=>exact(M5 _ _).1 d3b r (a3L z O0 r h).1
theorem c9e:J7 (λr:a4h=>Nat.ble (z8 r.2.1) 20) O0=true:=zw
theorem Y1 (z):z8 (Y5 z)<=20:=by unfold Y5;cases h:R5 z O0 with|none=>decide|some r=>exact vU ((M5 _ _).1 c9e r (a3L z O0 r h).1)
theorem t85 (N call)(h35:∀n,call 35 [.int .i64 n]=M.pure (.ret (.string ⟨⟨Y5 n⟩⟩)))(z):c7m o8 N call (.int .i64 z)=M.pure (.ret (.bool (J3 z))):=by simp only[f0L,h35,O5,V6,I8,V.e8n,O6,d1M]
theorem t57 (N call)(h97:∀n,call 97 [.int .i64 n]=M.pure (.ret (a9K (R5 n O0))))(z):a1a (c7M o8 N call (.int .i64 z)) (.bool (J3 z)):=by intro c h r w;unfold J3;have e:=h97 z;cases hf:R5 z O0 with|none=>rw[hf]at e;simp(maxSteps:=9999999) (disch:=try exact dx)only[gD,d8I,e,a9K,c5V,Q4,P7,P6,a2G];exact l9.done ⟨rfl,λj hj=>zU⟩|some q=>rw[hf]at e;simp(maxSteps:=9999999) (disch:=try exact dx)only[gD,d8I,e,a9K,b5Q,Q4,P7,P6,a2G];exact l9.done ⟨rfl,λj hj=>zU⟩
theorem L0:Shelf' Tryz.prog tab (I5 mL) NN a6Y a7m:=⟨a5M,b2H⟩
theorem e4L:K3 Tryz.prog tab (I5 mL) 86 (X1 .i64 (λz=>some (.bool (idxB z)))):=a8x V7 M9 L0 Tryz.func86 zw rfl λz v h=>by cases h;exact⟨rfl,1,by rw[Y7 (q:=c6y) (N:=NN) zw 0];exact a1a.pure (t86 _ _ z)⟩
theorem e7o:K3 Tryz.prog tab (I5 mL) 59 (X1 .i64 (λz=>some (.bool (idxB z)))):=a8x V7 M9 L0 Tryz.func59 zw rfl λz v h=>by cases h;exact⟨rfl,1,by rw[Y7 (q:=c6K) (N:=NN) zw 0];exact a1a.pure (t59 _ _ z)⟩
theorem e7M:K3 Tryz.prog tab (I5 mL) 88 (X1 .i64 (λz=>some (.bool (a1g z)))):=a8x V7 M9 L0 Tryz.func88 zw rfl λz v h=>by cases h;exact⟨rfl,1,by rw[Y7 (q:=c7I) (N:=NN) zw 0];exact a1a.pure (t88 _ _ z)⟩
theorem e6j:K3 Tryz.prog tab (I5 mL) 61 (X1 .i64 (λz=>some (.bool (a1g z)))):=a8x V7 M9 L0 Tryz.func61 zw rfl λz v h=>by cases h;exact⟨rfl,1,by rw[Y7 (q:=c7q) (N:=NN) zw 0];exact a1a.pure (t61 _ _ z)⟩
theorem c8e:K3 Tryz.prog tab (I5 mL) 40 (X1 .i64 (λz=>some (.string ⟨⟨U6 z⟩⟩))):=a8x V7 M9 L0 Tryz.func40 zw rfl λz v h=>by cases h;exact⟨rfl,1,by rw[Y7 (q:=c3q) (N:=NN) zw 0];exact a1a.pure (t40 _ _ z)⟩
theorem e7O:K3 Tryz.prog tab (I5 mL) 43 (X1 .i64 (λz=>some (.string ⟨⟨bcase (decide (z=3)) [102,117,110,99] [101,120,116,101,114,110]⟩⟩))):=a8x V7 M9 L0 Tryz.func43 zw rfl λz v h=>by cases h;exact⟨rfl,1,by rw[Y7 (q:=c7b) (N:=NN) zw 0];exact a1a.pure (t43 _ _ z)⟩
def e1:Nat->Option (List Value->M Value):=(M7 (M7 (M7 (M7 (M7 (M7 (M7 (M7 (M7 (M7 (M7 a6Y 127 (b1D (a1M O0) 125 3)) 35 (X1 .i64 (λz=>some (.string ⟨⟨Y5 z⟩⟩)))) 37 (λbs=>M.lift (b4s bs))) 95 (λbs=>M.lift (b1H bs))) 126 (λbs=>M.lift (a4I bs))) 86 (X1 .i64 (λz=>some (.bool (idxB z))))) 59 (X1 .i64 (λz=>some (.bool (idxB z))))) 88 (X1 .i64 (λz=>some (.bool (a1g z))))) 61 (X1 .i64 (λz=>some (.bool (a1g z))))) 40 (X1 .i64 (λz=>some (.string ⟨⟨U6 z⟩⟩)))) 43 (X1 .i64 (λz=>some (.string ⟨⟨bcase (decide (z=3)) [102,117,110,99] [101,120,116,101,114,110]⟩⟩))))
def s1:a2x:=(U7 (U7 (U7 (U7 (U7 (U7 (U7 (U7 (U7 (U7 (U7 a7m 127 (b1D (a1M O0) 125 3)) 35 (X1 .i64 (λz=>some (.string ⟨⟨Y5 z⟩⟩)))) 37 (λbs=>M.lift (b4s bs))) 95 (λbs=>M.lift (b1H bs))) 126 (λbs=>M.lift (a4I bs))) 86 (X1 .i64 (λz=>some (.bool (idxB z))))) 59 (X1 .i64 (λz=>some (.bool (idxB z))))) 88 (X1 .i64 (λz=>some (.bool (a1g z))))) 61 (X1 .i64 (λz=>some (.bool (a1g z))))) 40 (X1 .i64 (λz=>some (.string ⟨⟨U6 z⟩⟩)))) 43 (X1 .i64 (λz=>some (.string ⟨⟨bcase (decide (z=3)) [102,117,110,99] [101,120,116,101,114,110]⟩⟩))))
theorem L1:Shelf' Tryz.prog tab (I5 mL) NN e1 s1:=(((((((((((((L0.add d3o).add e7E).add d2L).add c6J).add c3K)).add e4L).add e7o).add e7M).add e6j)).add c8e).add e7O)
theorem e5u (n z):o9 s1 (n+1) 35 [.int .i64 z]=M.pure (.ret (.string ⟨⟨Y5 z⟩⟩)):=a1h (q:=λz=>some (.string ⟨⟨Y5 z⟩⟩)) zw n rfl
theorem e4o (n z):o9 s1 (n+1) 86 [.int .i64 z]=M.pure (.ret (.bool (idxB z))):=a1h (q:=λz=>some (.bool (idxB z))) zw n rfl
theorem e6b (n z):o9 s1 (n+1) 59 [.int .i64 z]=M.pure (.ret (.bool (idxB z))):=a1h (q:=λz=>some (.bool (idxB z))) zw n rfl
theorem e6C (n z):o9 s1 (n+1) 88 [.int .i64 z]=M.pure (.ret (.bool (a1g z))):=a1h (q:=λz=>some (.bool (a1g z))) zw n rfl
theorem e5P (n z):o9 s1 (n+1) 61 [.int .i64 z]=M.pure (.ret (.bool (a1g z))):=a1h (q:=λz=>some (.bool (a1g z))) zw n rfl
theorem d4s (n z)(h1:-9223372036854775808<=z)(h2:z<=9223372036854775807):o9 s1 (n+1) 95 [.int .i64 z,.int .i64 (.ofNat 10)]=M.pure (.ret (.string ⟨⟨Lib.itoa z⟩⟩)):=by refine V9 s1 n 95 _ (g:=b1H) zw ?_;show bcase (decide (-9223372036854775808<=z)&&decide (z<=9223372036854775807)) _ none=_;rw[wJ h1,wJ h2];rfl
theorem e0g (n m)(h:m<18446744073709551616):o9 s1 (n+1) 126 [.int .u64 (.ofNat m),.int .i64 (.ofNat 10)]=M.pure (.ret (.string ⟨⟨Lib.decDigits m⟩⟩)):=by refine V9 s1 n 126 _ (g:=a4I) zw ?_;show bcase (Nat.blt m 18446744073709551616) _ none=_;rw[I1 h];rfl
theorem e3w (n c h r w):go (o9 s1 (n+1) 127 []) ⟨c,h,r,w⟩=some (.ret (.slice (some ⟨c,0,some 0⟩) 125 3),⟨c+1,upd h c (.cells (K4 (λv=>(v,0)) (a1M O0)) 0 false),r,c::w⟩):=by
 rw[a5h s1 n 127 [] (g:=b1D (a1M O0) 125 3) zw,J8];have e:go (b1D (a1M O0) 125 3 []) ⟨c,h,r,w⟩=some (.slice (some ⟨c,0,some 0⟩) 125 3,⟨c+1,upd h c (.cells (K4 (λv=>(v,0)) (a1M O0)) 0 false),r,c::w⟩):=by show go (M.bind (Y9 (a1M O0)) λa=>M.pure (Value.slice (some a) 125 3)) ⟨c,h,r,w⟩=_;rw[J8,a1U c h r w _ zw];rfl
 rw[e];rfl
theorem e5x:K3 Tryz.prog tab (I5 mL) 97 (X1 .i64 λz=>some (a9K (R5 z O0))):=a8x V7 M9 L1 Tryz.func97 zw rfl λz v h=>by cases h;refine⟨?_,2,?_⟩;cases R5 z O0<;>rfl;rw[Y7 (q:=c7D) (N:=NN) zw 1];exactλc h r w=>t97 NN zu _ (e3w 0) z c h r w
theorem e4G:K3 Tryz.prog tab (I5 mL) 93 (λbs=>M.lift (a4I bs)):=a2c V7 M9 L1.e (L1 (mL:=mL)).s Tryz.func93 zw rfl λbs v h=>by unfold a4I at h;split at h;rename_i u;obtain⟨h1,rfl⟩:=a3M h;refine⟨rfl,λc h r w=>⟨2,?_⟩⟩;rw[a1H (q:=d3a) (N:=NN) zw 1];have e:o9 s1 1 126 [.int .u64 (.ofNat u),.int .i64 (.ofNat 10)]=_:=e0g 0 u (by simpa[uZ]using h1);have e':(Value.int IntKind.i64 10)=.int .i64 (.ofNat 10):=rfl;simp only[e9z,e',e,V6,Z8,I8,V.e8n];exact l9.done ⟨rfl,λ_ _=>rfl⟩;cases h
theorem e5t:K3 Tryz.prog tab (I5 mL) 85 (X1 .i64 λz=>some (.bool (J3 z))):=a8x V7 M9 L1 Tryz.func85 zw rfl λz v h=>by cases h;exact⟨rfl,2,by rw[Y7 (q:=c7m) (N:=NN) zw 1];exact a1a.pure (t85 _ _ (e5u 0) z)⟩
theorem c9l {z w v}(h:b0b z w=some v):∃n,z=.ofNat n/\((w=.ofNat 32/\n<4294967296/\v=.string ⟨⟨Lib.itoa (sgn 32 n)⟩⟩)\/(w=.ofNat 64/\n<18446744073709551616/\v=.string ⟨⟨Lib.itoa (sgn 64 n)⟩⟩)):=by unfold b0b at h;split at h;rename_i n;split at h;rename_i w;obtain⟨h1,rfl⟩:=a3M h;rw[pU,wI,wI]at h1;refine⟨n,rfl,?_⟩;rcases h1 with⟨a,b⟩|⟨a,b⟩;obtain rfl:=wK a;exact Or.inl ⟨rfl,by simpa[uZ]using b,rfl⟩;obtain rfl:=wK a;exact Or.inr ⟨rfl,by simpa[uZ]using b,rfl⟩;cases h;cases h
theorem d3z (n)(h:n<4294967296):b0b (.ofNat n) (.ofNat 32)=some (.string ⟨⟨Lib.itoa (sgn 32 n)⟩⟩):=by show bcase ((Nat.beq 32 32&&Nat.blt n 4294967296)||(Nat.beq 32 64&&Nat.blt n 18446744073709551616)) _ none=_;rw[I1 h];rfl
theorem d1y (n)(h:n<18446744073709551616):b0b (.ofNat n) (.ofNat 64)=some (.string ⟨⟨Lib.itoa (sgn 64 n)⟩⟩):=by show bcase ((Nat.beq 64 32&&Nat.blt n 4294967296)||(Nat.beq 64 64&&Nat.blt n 18446744073709551616)) _ none=_;rw[I1 h];rfl
theorem e7h:K3 Tryz.prog tab (I5 mL) 42 (X2 .u64 .i64 b0b):=f1z V7 M9 L1 Tryz.func42 zw rfl λz w v h=>by obtain⟨n,rfl,⟨rfl,hn,rfl⟩|⟨rfl,hn,rfl⟩⟩:=c9l h;exact⟨rfl,2,by rw[a1H (q:=b7V) (N:=NN) zw 1];exact a1a.pure (e0t _ _ n hn (d4s 0))⟩;exact⟨rfl,2,by rw[a1H (q:=b7V) (N:=NN) zw 1];exact a1a.pure (e3G _ _ n hn (d4s 0))⟩
def onB (q:Int->Int->Int->Option Value)(bs:List Value):Option Value:=match bs with|[.agg ⟨[.int .i64 a,.int .i64 b,.int .i64 d]⟩]=>q a b d|_=>none
theorem d7p {q bs v}(h:onB q bs=some v):∃a b d,bs=[.agg ⟨[.int .i64 a,.int .i64 b,.int .i64 d]⟩]/\q a b d=some v:=by unfold onB at h;split at h;exact⟨_,_,_,rfl,h⟩;cases h
def XB (q:Int->Int->Int->Option Value):List Value->M Value:=λbs=>M.lift (onB q bs)
theorem c6B {sh f q}(h:sh.get f=some (arX (XB q)))(m){a b d v}(e:q a b d=some v):o9 sh (m+1) f [.agg ⟨[.int .i64 a,.int .i64 b,.int .i64 d]⟩]=M.pure (.ret v):=V9 sh m f _ h e
theorem d3J {ext sh}(L:Shelf' Tryz.prog tab (I5 mL) NN ext sh){f fn cd}(hPf:Tryz.prog.funcs[f]?=some fn)(hnum:(fn.name== "runtime.NumGoroutine")=false)(hb:fn.body=some cd){q}(h:∀a b d v,q a b d=some v->K5 8 v=true/\∃m,a1a (o9 sh m f [.agg ⟨[.int .i64 a,.int .i64 b,.int .i64 d]⟩]) v):K3 Tryz.prog tab (I5 mL) f (XB q):=a2c V7 M9 L.e L.s hPf hnum hb λbs v hq=>by obtain⟨a,b,d,rfl,e⟩:=d7p hq;obtain⟨h1,m,h2⟩:=h a b d v e;exact⟨h1,λc h r w=>⟨m,h2 c h r w⟩⟩
theorem e4K:K3 Tryz.prog tab (I5 mL) 87 (XB λa b d=>some (.bool (blkB a b d))):=d3J L1 Tryz.func87 zw rfl λa b d v h=>by cases h;exact⟨rfl,2,by rw[Y7 (q:=c5M) (N:=NN) zw 1];exact t87 _ _ (e4o 0) (e6C 0) a b d⟩
theorem e5Q:K3 Tryz.prog tab (I5 mL) 58 (XB λa b d=>some (.bool (blkB a b d))):=d3J L1 Tryz.func58 zw rfl λa b d v h=>by cases h;exact⟨rfl,2,by rw[Y7 (q:=c6C) (N:=NN) zw 1];exact t58 _ _ (e6b 0) (e5P 0) a b d⟩
def e2:Nat->Option (List Value->M Value):=(M7 (M7 (M7 (M7 (M7 (M7 e1 97 (X1 .i64 λz=>some (a9K (R5 z O0)))) 93 (λbs=>M.lift (a4I bs))) 85 (X1 .i64 λz=>some (.bool (J3 z)))) 42 (X2 .u64 .i64 b0b)) 87 (XB λa b d=>some (.bool (blkB a b d)))) 58 (XB λa b d=>some (.bool (blkB a b d))))
def s2:a2x:=(U7 (U7 (U7 (U7 (U7 (U7 s1 97 (X1 .i64 λz=>some (a9K (R5 z O0)))) 93 (λbs=>M.lift (a4I bs))) 85 (X1 .i64 λz=>some (.bool (J3 z)))) 42 (X2 .u64 .i64 b0b)) 87 (XB λa b d=>some (.bool (blkB a b d)))) 58 (XB λa b d=>some (.bool (blkB a b d))))
theorem L2:Shelf' Tryz.prog tab (I5 mL) NN e2 s2:=(((((((((L1.add e5x).add e4G)).add e5t)).add e7h)).add e4K).add e5Q)
theorem d6i (n z):o9 s2 (n+1) 97 [.int .i64 z]=M.pure (.ret (a9K (R5 z O0))):=a1h (q:=λz=>some (a9K (R5 z O0))) zw n rfl
theorem e6R (n z):o9 s2 (n+1) 85 [.int .i64 z]=M.pure (.ret (.bool (J3 z))):=a1h (q:=λz=>some (.bool (J3 z))) zw n rfl
theorem e7S (n z):o9 s2 (n+1) 40 [.int .i64 z]=M.pure (.ret (.string ⟨⟨U6 z⟩⟩)):=a1h (q:=λz=>some (.string ⟨⟨U6 z⟩⟩)) zw n rfl
theorem e3T (n z)(h1:-9223372036854775808<=z)(h2:z<=9223372036854775807):o9 s2 (n+1) 37 [.int .i64 z]=M.pure (.ret (.string ⟨⟨Lib.itoa z⟩⟩)):=by refine V9 s2 n 37 _ (g:=b4s) zw ?_;show bcase (decide (-9223372036854775808<=z)&&decide (z<=9223372036854775807)) _ none=_;rw[wJ h1,wJ h2];rfl
theorem e4J:K3 Tryz.prog tab (I5 mL) 46 (X1 .i64 λz=>some (.int .i64 (.ofNat (F7 z)))):=a8x V7 M9 L2 Tryz.func46 zw rfl λz v h=>by cases h;exact⟨rfl,2,by rw[Y7 (q:=c7o) (N:=NN) zw 1];exact t46 _ _ (d6i 0) z⟩
theorem e6E:K3 Tryz.prog tab (I5 mL) 57 (X1 .i64 λz=>some (.bool (J3 z))):=a8x V7 M9 L2 Tryz.func57 zw rfl λz v h=>by cases h;exact⟨rfl,2,by rw[Y7 (q:=c7M) (N:=NN) zw 1];exact t57 _ _ (d6i 0) z⟩
def b5r (k v i:Int):Option Value:=bcase (decide (-9223372036854775808<=i)&&decide (i<=9223372036854775807)) (some (.string ⟨⟨a7a k v i⟩⟩)) none
theorem d3P {k v i x}(h:b5r k v i=some x):-9223372036854775808<=i/\i<=9223372036854775807/\x=.string ⟨⟨a7a k v i⟩⟩:=by obtain⟨h1,rfl⟩:=a3M h;simp only[wI,vF]at h1;exact⟨h1.1,h1.2,rfl⟩
theorem d6B (k v i)(h1:-9223372036854775808<=i)(h2:i<=9223372036854775807):b5r k v i=some (.string ⟨⟨a7a k v i⟩⟩):=by unfold b5r;rw[wJ h1,wJ h2];rfl
theorem e7s:K3 Tryz.prog tab (I5 mL) 14 (XB b5r):=d3J L2 Tryz.func14 zw rfl λk v i x h=>by obtain⟨h1,h2,rfl⟩:=d3P h;exact⟨rfl,2,by rw[Y7 (q:=c7s) (N:=NN) zw 1];exact t14 _ _ (e7S 0) k v i h1 h2 (e3T 0 i h1 h2)⟩
def d4t (k:Nat):Bool:=!(J7 (λr:a4h=>!(Nat.beq r.1 k)) O0)
theorem unk {z}(hu:R5 z O0=none)(k)(hk:d4t k=true):decide (z=Int.ofNat k)=false:=by
 rw[uz];intro e;have:J7 (λr:a4h=>!(Nat.beq r.1 k)) O0=true:=by rw[M5];intro r hr;have:=c2T z O0 hu r hr;rw[e]at this;have hne:r.1≠k:=λq=>this (by rw[q]);rw[a0x hne];rfl
 unfold d4t at hk;rw[this]at hk;cases hk
theorem d1e {z}(hu:R5 z O0=none):J3 z=false:=by unfold J3;rw[hu]
theorem d8A (N call z)(h85:call 85 [.int .i64 z]=M.pure (.ret (.bool false))):c0w o8 N call (.int .i64 z)=M.pure (.ret (.bool false)):=by simp only[e7j,h85,O5,U0,V6,I8,M4,L8,K8,K9,X3,Y0,a2s,G5,V.e8n,a5o,a1C,uJ]
theorem e4C (N call z)(h:call 124 [.int .i64 z]=M.pure (.ret (.bool false))):c7N o8 N call (.int .i64 z)=M.pure (.ret (.int .i64 (.ofNat 0))):=by simp only[e9Z,h,O5,U0,V6,a6s,I8,D8,J9,V.e8n,Q6,uS]
theorem e5D (N call z)(hu:R5 z O0=none):c6q o8 N call (.int .i64 z)=M.pure (.ret (.int .i64 (.ofNat 0))):=by simp only[f1f,unk hu 37 zw,unk hu 38 zw,unk hu 63 zw,unk hu 64 zw,unk hu 64520 zw,unk hu 64521 zw,unk hu 64522 zw,unk hu 64523 zw,unk hu 64524 zw,unk hu 64525 zw,unk hu 64526 zw,unk hu 64527 zw,unk hu 64528 zw,unk hu 64529 zw,O5,U0,A8,X3,Y0,J9,G5,V.e8n,R9]
theorem e7c (N call z)(hu:R5 z O0=none)(h91:call 91 [.int .i64 z]=M.pure (.ret (.int .i64 (.ofNat 0))))(h92:call 92 [.int .i64 z]=M.pure (.ret (.int .i64 (.ofNat 0)))):c5J o8 N call (.int .i64 z)=M.pure (.ret (.int .i64 (.ofNat 0))):=by have e:decide (Int.ofNat 0<Int.ofNat 0)=false:=zu;simp only[f0w,unk hu 2 zw,unk hu 3 zw,unk hu 4 zw,unk hu 12 zw,unk hu 13 zw,unk hu 14 zw,unk hu 16 zw,unk hu 17 zw,unk hu 28 zw,unk hu 32 zw,unk hu 33 zw,unk hu 34 zw,unk hu 35 zw,unk hu 36 zw,unk hu 65 zw,unk hu 66 zw,unk hu 208 zw,unk hu 210 zw,h91,h92,e,O5,U0,V6,I8,A8,X3,Y0,J9,G5,V.e8n,R9,M6]
theorem d9z:K3 Tryz.prog tab (I5 mL) 39 (X1 .i64 λz=>bcase (!(J3 z)) (some (.int .i64 (.ofNat (F7 z)))) none):=a8x V7 M9 L2 Tryz.func39 zw rfl λz v h=>by obtain⟨h1,rfl⟩:=a3M h;refine⟨rfl,4,?_⟩;unfold J3 at h1;cases hf:R5 z O0 with|some r=>rw[hf]at h1;cases h1|none=>rw[show F7 z=0 by unfold F7;rw[hf],Y7 (q:=c5J) (N:=NN) zw 3];refine a1a.pure (e7c _ _ z hf ?_ ?_);rw[Y7 (q:=c7N) (N:=NN) zw 2];refine e4C _ _ z ?_;rw[Y7 (q:=c0w) (N:=NN) zw 1];refine d8A _ _ z ?_;rw[e6R 0,d1e hf];rw[Y7 (q:=c6q) (N:=NN) zw 2];exact e5D _ _ z hf
theorem e6g:K3 Tryz.prog tab (I5 mL) 39 (X1 .i64 λz=>some (.int .i64 (.ofNat (F7 z)))):=d7a d0J d9z λz v h=>by cases hk:J3 z with|true=>exact Or.inl h|false=>exact Or.inr h
def e3:Nat->Option (List Value->M Value):=(M7 (M7 (M7 (M7 (M7 e2 46 (X1 .i64 λz=>some (.int .i64 (.ofNat (F7 z))))) 57 (X1 .i64 λz=>some (.bool (J3 z)))) 14 (XB b5r)) 39 (X1 .i64 λz=>some (.int .i64 (.ofNat (F7 z))))) 94 (X1 .i64 a7i))
def s3:a2x:=(U7 (U7 (U7 (U7 (U7 s2 46 (X1 .i64 λz=>some (.int .i64 (.ofNat (F7 z))))) 57 (X1 .i64 λz=>some (.bool (J3 z)))) 14 (XB b5r)) 39 (X1 .i64 λz=>some (.int .i64 (.ofNat (F7 z))))) 94 (X1 .i64 a7i))
theorem L3:Shelf' Tryz.prog tab (I5 mL) NN e3 s3:=(((((((((L2).add e4J).add e6E)))).add e7s).add e6g).add d4E)
def uA (k:Nat):Bool:=a2V k [2,3,4,7,8,9,12,16,20,5,10,11,14,15,17]
def uB (k:Nat):Bool:=a2V k [5,10,11,14,15,13,17]
def uN (k:Nat):Bool:=a2V k [17,18,19]
def e0N (k:Nat):M CR:=M.pure (.ret (.tuple ⟨[.bool (uA k),.bool (uB k),.bool (uN k)]⟩))
theorem t84 (N call k)(hk:k<=20):c5Y o8 N call (.int .i64 (.ofNat k))=e0N k:=by rw[e9H];obtain rfl|rfl|rfl|rfl|rfl|rfl|rfl|rfl|rfl|rfl|rfl|rfl|rfl|rfl|rfl|rfl|rfl|rfl|rfl|rfl|rfl:k=0\/k=1\/k=2\/k=3\/k=4\/k=5\/k=6\/k=7\/k=8\/k=9\/k=10\/k=11\/k=12\/k=13\/k=14\/k=15\/k=16\/k=17\/k=18\/k=19\/k=20:=zy;all_goals kernel_rfl
theorem c3b:J7 (λr:a4h=>Nat.ble r.2.2 20) O0=true:=zw
theorem b4P (z):F7 z<=20:=by unfold F7;cases h:R5 z O0 with|none=>decide|some r=>exact vU ((M5 _ _).1 c3b r (a3L z O0 r h).1)
def idxAll (l:List Int):Bool:=J7 idxB l
theorem a9h (q t):idxAll (q::t)=(idxB q&&idxAll t):=U5 _ _ _
abbrev M0 (l:List Int):List Value:=l.map λn=>Value.int .i64 n
theorem d1C (N call)(h59:∀n,call 59 [.int .i64 n]=M.pure (.ret (.bool (idxB n))))(c h v l)(H:K6 c h v (M0 l))(hl:l.length<4294967296):∀(t) (i k) (g0 g1 g2 g3 g4 g5 g6 g7 g8 g9 g11 g12) (r w),l.drop i=t->t.length<k->l9 (go (R7 (d5N o8 N call v) k [g0,g1,g2,g3,g4,g5,g6,g7,g8,g9,.bool false,g11,g12,.int .i64 (.ofNat i)]) ⟨c,h,r,w⟩) λx s=>s.c=c/\s.h=h/\((idxAll t=true/\x.1=.exit 0)\/(idxAll t=false/\x.1=.ret/\D5 x.2 10=.bool false)):=by
 intro t;have hlen:=H.len;rw[wB]at hlen;induction t with
  |nil=>
   intro i k g0 g1 g2 g3 g4 g5 g6 g7 g8 g9 g11 g12 r w hd hk;obtain⟨k,rfl⟩:∃m,k=m+1:=⟨k-1,zT⟩;have hi:Nat.blt i l.length=false:=by have:l.length<=i:=yY;cases q:Nat.blt i l.length with|false=>rfl|true=>have:i<l.length:=yH;omega
   simp(maxSteps:=9999999) (disch:=try exact dx)only[Y8,b6y,hlen,a2L,hi,O5,V6,J5,Z8,A8,X3,Y0,J9,a1s,V.e8n,G6,J6];exact l9.done ⟨rfl,rfl,Or.inl ⟨rfl,rfl⟩⟩|cons q t ih=>
   intro i k g0 g1 g2 g3 g4 g5 g6 g7 g8 g9 g11 g12 r w hd hk;obtain⟨k,rfl⟩:∃m,k=m+1:=⟨k-1,zT⟩;have hil:i<l.length:=yf;have hi:Nat.blt i l.length=true:=I1 hil;have hq:l[i]?=some q:=yU;have hd':l.drop (i+1)=t:=zJ;have hinc:=J2 i zy;obtain⟨p,b,_,e1,e2⟩:=H.read (wP c) (λ_ _=>rfl) (i:=i) (x:=.int .i64 q) (by rw[vW,hq];rfl);cases hb:idxB q with
    |true=>
     simp(maxSteps:=9999999) (disch:=try exact dx)only[gD,Y8,b6y,hlen,a2L,e1,e2,h59,hb,hinc,G6,J6];have e:idxAll (q::t)=idxAll t:=by rw[a9h,hb,a8D]
     rw[e];exact ih (i+1) k _ _ _ _ _ _ _ _ _ _ _ _ _ _ hd' zT|false=>simp(maxSteps:=9999999) (disch:=try exact dx)only[gD,Y8,b6y,hlen,a2L,e1,e2,h59,hb,hinc,a2l,G6,J6];refine l9.done ⟨rfl,rfl,Or.inr ⟨?_,rfl,rfl⟩⟩;rw[a9h,hb,uR]
theorem t60 (N call)(h59:∀n,call 59 [.int .i64 n]=M.pure (.ret (.bool (idxB n))))(c h v l)(H:K6 c h v (M0 l))(hl:l.length<4294967296)(hN:l.length<N)(r w):l9 (go (c8f o8 N call v) ⟨c,h,r,w⟩) λx s=>x=.ret (.bool (idxAll l))/\s.c=c/\s.h=h:=by simp(maxSteps:=9999999) (disch:=try exact dx)only[f0q,U0,a6s,J8];refine l9.bindS (d1C N call h59 c h v l H hl l 0 N _ _ _ _ _ _ _ _ _ _ _ _ r w rfl hN) λx s hq=>?_;obtain⟨x1,x2⟩:=x;obtain⟨c',h',r',w'⟩:=s;obtain⟨rfl,rfl,⟨e1,rfl⟩|⟨e1,rfl,e2⟩⟩:=hq;simp(maxSteps:=9999999) (disch:=try exact dx)only[Z8,b0d,a2z,a1s];exact l9.done ⟨by rw[e1],rfl,rfl⟩;simp only at e2;simp(maxSteps:=9999999) (disch:=try exact dx)only[Z8,a2l,e2];exact l9.done ⟨by rw[e1],rfl,rfl⟩
theorem d3Z (N call)(h86:∀n,call 86 [.int .i64 n]=M.pure (.ret (.bool (idxB n))))(c h v l)(H:K6 c h v (M0 l))(hl:l.length<4294967296):∀(t) (i k) (g0 g1 g2 g3 g4 g5 g6 g8) (r w),l.drop i=t->t.length<k->l9 (go (R7 (d5m o8 N call (.int .i64 (.ofNat l.length)) v) k [g0,g1,g2,g3,g4,g5,g6,.bool false,g8,.int .i64 (.ofNat i)]) ⟨c,h,r,w⟩) λx s=>s.c=c/\s.h=h/\((idxAll t=true/\x.1=.exit 1)\/(idxAll t=false/\x.1=.ret/\D5 x.2 7=.bool false)):=by
 intro t;induction t with
  |nil=>
   intro i k g0 g1 g2 g3 g4 g5 g6 g8 r w hd hk;obtain⟨k,rfl⟩:∃m,k=m+1:=⟨k-1,zT⟩;have hi:Nat.blt i l.length=false:=by have:l.length<=i:=yY;cases q:Nat.blt i l.length with|false=>rfl|true=>have:i<l.length:=yH;omega
   simp(maxSteps:=9999999) (disch:=try exact dx)only[Y8,b6L,a2L,hi,O5,V6,J5,Z8,A8,X3,Y0,J9,a1s,V.e8n,G6,J6];exact l9.done ⟨rfl,rfl,Or.inl ⟨rfl,rfl⟩⟩|cons q t ih=>
   intro i k g0 g1 g2 g3 g4 g5 g6 g8 r w hd hk;obtain⟨k,rfl⟩:∃m,k=m+1:=⟨k-1,zT⟩;have hil:i<l.length:=yf;have hi:Nat.blt i l.length=true:=I1 hil;have hq:l[i]?=some q:=yU;have hd':l.drop (i+1)=t:=zJ;have hinc:=J2 i zy;obtain⟨p,b,_,e1,e2⟩:=H.read (wP c) (λ_ _=>rfl) (i:=i) (x:=.int .i64 q) (by rw[vW,hq];rfl);cases hb:idxB q with
    |true=>
     simp(maxSteps:=9999999) (disch:=try exact dx)only[gD,Y8,b6L,a2L,e1,e2,h86,hb,hinc,G6,J6];have e:idxAll (q::t)=idxAll t:=by rw[a9h,hb,a8D]
     rw[e];exact ih (i+1) k _ _ _ _ _ _ _ _ _ _ hd' zT|false=>simp(maxSteps:=9999999) (disch:=try exact dx)only[gD,Y8,b6L,a2L,e1,e2,h86,hb,hinc,a2l,G6,J6];refine l9.done ⟨rfl,rfl,Or.inr ⟨?_,rfl,rfl⟩⟩;rw[a9h,hb,uR]
end S
end Go.Proofs.YtmomonnlmbljoaaGreatDoor
