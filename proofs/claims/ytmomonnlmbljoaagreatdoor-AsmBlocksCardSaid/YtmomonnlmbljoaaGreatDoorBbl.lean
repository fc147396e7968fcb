import Derived.Test.YtmomonnlmbljoaaGreatDoorBbk
set_option maxRecDepth 1000000
set_option maxHeartbeats 4000000
set_option linter.unusedVariables false
set_option linter.unusedSimpArgs false
section
namespace Go.Proofs.YtmomonnlmbljoaaGreatDoor
open Go.V Go.RowKit Go.Shelf Go.Proofs
variable {mL:Int}
attribute [local congr] y7 x9 A8 A7 D5 z8 E5 G8 G7
def X4 (sz c:Nat)(h:Trie VObj)(u:Sl)(rows:List Value):Prop:=rows.length=u.n*sz/\((u=⟨none,0,0⟩)\/∃ab g cs,u.a=some ⟨ab,0,some g⟩/\u.e=sz/\ab<c/\h.get ab=some (.cells cs g false)/\rows.length<=x8 cs/\y8 g cs rows.length=some rows)
theorem X4.nil (sz c h):X4 sz c h ⟨none,0,0⟩ []:=⟨zq,Or.inl rfl⟩
theorem X4.mono {sz c c' h h' u rows}(H:X4 sz c h u rows)(hc:c<=c')(hh:∀b,b<c->u.own b->h'.get b=h.get b):X4 sz c' h' u rows:=by obtain⟨h1,h2|⟨ab,g,cs,h2,h3,h4,h5,h6,h7⟩⟩:=H;exact⟨h1,Or.inl h2⟩;exact⟨h1,Or.inr ⟨ab,g,cs,h2,h3,zy,(hh ab h4 ⟨_,h2,rfl⟩).trans h5,h6,h7⟩⟩
theorem X4.own_lt {sz c h u rows}(H:X4 sz c h u rows){i}(hi:u.own i):i<c:=by obtain⟨a,ha,rfl⟩:=hi;obtain⟨_,rfl|⟨ab,g,cs,h2,h3,h4,_⟩⟩:=H;cases ha;rw[h2]at ha;cases ha;exact h4
theorem d1h {g}:∀(cs) (n),n<=x8 cs->x8 (a0x cs n)=n/\y8 g (a0x cs n) n=y8 g cs n:=by
 intro cs;induction cs with
  |nil=>
   intro n hn;have:n=0:=by have:=hn;rw[a2a]at this;omega
   subst this;exact⟨rfl,rfl⟩|cons q cs ih=>intro n hn;cases n with|zero=>exact⟨rfl,by rw[V9,V9]⟩|succ n=>rw[X8]at hn;obtain⟨h1,h2⟩:=ih n zy;obtain⟨v,st⟩:=q;refine⟨by rw[b7N,X8,h1],?_⟩;show(match Nat.ble st g with|true=>(match y8 g (a0x cs n) n with|some vs=>some (v::vs)|none=>none)|false=>none)=_;rw[h2];rfl
theorem a5b {e sz}(e1:e.size=sz)(e0:0<sz)(e2:Nat.blt e.bytes 4096=true){c h u x rows xs}(H:X4 sz c h u rows)(X:c2a sz c h x xs)(ho:J2 O4 xs=true)(hl:(u.n+x.n)*4<4294967296)(r w):l9 (go (a4F e (.slice u.a u.n u.e) (.slice x.a x.n x.e)) ⟨c,h,r,w⟩) λy s=>∃u',y=.slice u'.a u'.n u'.e/\u'.n=u.n+x.n/\X4 sz s.c s.h u' (rows++xs)/\c<=s.c/\(∀i,i<c->¬u.own i->s.h.get i=h.get i)/\(∀i,i<c->u'.own i->u.own i)/\∀i∈s.w,i∈w\/u.own i\/c<=i:=by
 obtain⟨r',hs⟩:=b5I X r w;unfold a4F;rw[e1,J8,hs,J3,Z6];obtain⟨hx,_⟩:=X;cases xs with
  |nil=>have hx0:x.n=0:=xU;refine⟨_,_,rfl,u,rfl,zy,by rw[wH];exact H,wQ _,λ_ _ _=>rfl,λ_ _ h=>h,λi h=>Or.inl h⟩|cons v vs=>
   have hlen:x8 (v::vs)=x.n*sz:=by rw[F9];exact hx
   have hlen':x8 vs+1=x.n*sz:=hlen;have hdiv:(x8 vs+1)/sz=x.n:=by rw[hlen'];exact Nat.mul_div_cancel _ e0
   have hg1:Nat.beq (x.n*sz) (x8 vs+1)=true:=by rw[hlen'];exact R5 _
   have hg2:Nat.blt ((u.n+x.n)*4) a3W=true:=I7 hl;unfold a1J;simp only[a2F,e1,hdiv,hg1,ho,hg2,e2,uf,P8];obtain⟨hrl,rfl|⟨ab,g,cs,h2,h3,h5,h6,h7,h8⟩⟩:=H;have hr0:rows=[]:=by
    have:rows.length=0:=by rw[hrl];exact tT _
    exact uz.1 this
   subst hr0;simp only[R5,P8];rw[J8,a1T _ _ _ _ _ ho,J3];refine⟨_,_,rfl,⟨some ⟨c,0,some 0⟩,x.n,sz⟩,rfl,(vV _).symm,⟨hx,Or.inr ⟨c,0,_,rfl,rfl,wE c,o7 _ _ _,?_,?_⟩⟩,vv c,λi hi _=>d9 zy,λi hi hq=>?_,λi hi=>?_⟩;rw[F9,a0R,wF];exact wQ _;have:∀l:List Value,y8 0 (U0 (λv=>(v,0)) l) l.length=some l:=yN;exact this (v::vs);obtain⟨a,ha,hb⟩:=hq;cases ha;simp only at hb;omega;rcases uw.1 hi with rfl|hi;exact Or.inr (Or.inr (wQ _));exact Or.inl hi;obtain⟨ua,un,ue⟩:=u;simp only at h2 h3 hrl hl⊢;subst h2;subst h3;simp only[R5,P8];unfold appendAt;have hb:Nat.ble (0+un*ue) (x8 cs)=true:=by rw[vV,<-hrl];exact a1l h7
   simp only[E8,e1];rw[J8];show l9 (R8 (rd ab ⟨c,h,r',w⟩) _) _;rw[b3I,I7 h5,h6];simp only[J3,a5A,ug,P8,hb,a0i];rw[<-hrl,h8,E8,Z6,vV,J8];show l9 (R8 (wr ab _ _) _) _;rw[b2N,I7 h5,h6];obtain⟨p1,p2⟩:=d1h (g:=g) cs rows.length h7;refine⟨_,_,rfl,⟨some ⟨ab,0,some (g+1)⟩,un+x.n,ue⟩,rfl,rfl,⟨?_,Or.inr ⟨ab,g+1,_,rfl,rfl,h5,o7 _ _ _,?_,?_⟩⟩,wQ c,λi hi hq=>d9 (λe=>hq ⟨_,rfl,e.symm⟩),λi hi hq=>?_,λi hi=>?_⟩;rw[wG,hrl,hx,tJ];rw[X3,p1,F9,a0R,wF,wG];exact wQ _;rw[wG];exact b2C _ rows.length rows (v::vs) p1 (p2.trans h8);obtain⟨a,ha,hb⟩:=hq;cases ha;exact⟨_,rfl,hb⟩;rcases uw.1 hi with rfl|hi;exact Or.inr (Or.inl ⟨_,rfl,rfl⟩);exact Or.inl hi
theorem X4.cut {sz c h u rows}(H:X4 sz c h u rows){j}(hj:j<u.n):X4 sz c h ⟨u.a,j,u.e⟩ (rows.take (j*sz)):=by
 obtain⟨h1,rfl|⟨ab,g,cs,h2,h3,h4,h5,h6,h7⟩⟩:=H;simp at hj;have hle:j*sz<=rows.length:=by rw[h1];exact Nat.mul_le_mul_right _ (Nat.le_of_lt hj)
 refine⟨by rw[tN];exact nY hle,Or.inr ⟨ab,g,cs,h2,h3,h4,h5,?_,?_⟩⟩;rw[tN];omega;rw[tN,nY hle];exact b2H cs _ _ _ h7 hle
structure PG where
 ap:Nat
 sb:Nat
 pc:Nat
 m:Nat
 F:Nat→List (Value×Value)
structure PD where
 c:Nat
 h:Trie VObj
 la:Sl
 oa:Sl
 lb:Nat
 p:Nat
 e:Nat
 L:List (List UInt8)
 S:List AI
 V:Nat→Prop
def PG.fo (G:PG):Value:=.func (.func 71) ⟨[]⟩ ⟨[.pointer (some ⟨G.pc,0,some 0⟩)]⟩
def PG.sv (G:PG):Value:=.pointer (some ⟨G.sb,0,some 0⟩)
def PD.P (d:PD):PV:=⟨d.oa,d.lb,d.p,d.e⟩
def Frz (G:PG)(d:PD)(i:Nat):Prop:=i<d.c/\i≠G.ap/\i≠G.sb/\¬d.la.own i/\¬d.oa.own i
structure Stp (G:PG) (d d':PD):Prop where
 le:d.c≤d'.c
 fz:∀ i,Frz G d i→Frz G d' i∧d'.h.get i=d.h.get i
 vn:∀ i,d'.V i→d.V i∨d.c≤i
 vm:∀ i,d.V i→d'.V i
theorem Stp.refl (G d):Stp G d d:=⟨wQ _,λi h=>⟨h,rfl⟩,λi h=>Or.inl h,λi h=>h⟩
theorem Stp.trans {G d d' d''}(h1:Stp G d d')(h2:Stp G d' d''):Stp G d d'':=⟨vQ h1.le h2.le,λi h=>⟨(h2.fz i (h1.fz i h).1).1,((h2.fz i (h1.fz i h).1).2).trans (h1.fz i h).2⟩,λi h=>by rcases h2.vn i h with h|h;exact h1.vn i h;exact Or.inr (vQ h1.le h),λi h=>h2.vm i (h1.vm i h)⟩
structure RIu (U:Nat→Prop) (h:Trie VObj) (R:RV) (X:AI):Prop where
 e:R.op=X.op∧R.A=X.A∧R.B=X.B∧R.N=X.N∧R.k=X.k∧R.v=X.v∧R.bi=X.bi
 ts:SlU U h R.ts (X.ts.map iV)
 ls:SlU U h R.ls (X.ls.map iV)
theorem RIu.mono {U U' h h' R X}(H:RIu U h R X)(hu:∀i,U i->U' i/\h'.get i=h.get i):RIu U' h' R X:=⟨H.e,H.ts.mono hu,H.ls.mono hu⟩
inductive RIs (U:Nat→Prop) (h:Trie VObj):List RV→List AI→Prop
 | nil:RIs U h [] []
 | cons {R:RV} {X:AI} {Rs:List RV} {S:List AI}:RIu U h R X→RIs U h Rs S→RIs U h (R::Rs) (X::S)
theorem RIs.mono {U U' h h' Rs S}(H:RIs U h Rs S)(hu:∀i,U i->U' i/\h'.get i=h.get i):RIs U' h' Rs S:=by induction H with|nil=>exact .nil|cons h1 _ ih=>exact .cons (h1.mono hu) ih
theorem RIs.snoc {U h Rs S}(H:RIs U h Rs S){R X}(h1:RIu U h R X):RIs U h (Rs++[R]) (S++[X]):=by induction H with|nil=>exact .cons h1 .nil|cons h2 _ ih=>exact .cons h2 ih
theorem RIs.len {U h Rs S}(H:RIs U h Rs S):Rs.length=S.length:=by induction H with|nil=>rfl|cons _ _ ih=>rw[wI,wI,ih]
structure ScM (U:Nat→Prop) (h:Trie VObj) (m:Nat) (F:Nat→List (Value×Value)):Prop where
 hm:U m
 es:∃ es,h.get m=some (.map es)∧∀ k,k<9→∃ kb ko kg ds cur2 ro2 n nm m2,a1i (.int .i64 (.ofNat k)) es=some (some (.pointer (some ⟨kb,ko,some kg⟩)))∧U kb∧h.get kb=some (.cells ds cur2 ro2)∧y8 kg (H9 ds ko) 3=some [n,nm,.map (some m2)]∧U m2∧h.get m2=some (.map (F k))
 good:∀ k,k<9→∀ T:List UInt8,(∃ n,a1i (.string ⟨⟨T⟩⟩) (F k)=some (some (.int .i64 (.ofNat n))))∨a1i (.string ⟨⟨T⟩⟩) (F k)=some none
theorem ScM.mono {U U' h h' m F}(H:ScM U h m F)(hu:∀i,U i->U' i/\h'.get i=h.get i):ScM U' h' m F:=by refine⟨(hu _ H.hm).1,?_,H.good⟩;obtain⟨es,h1,h2⟩:=H.es;refine⟨es,(hu _ H.hm).2.trans h1,λk hk=>?_⟩;obtain⟨kb,ko,kg,ds,cur2,ro2,n,nm,m2,a1,a2,a3,a4,a5,a6⟩:=h2 k hk;exact⟨kb,ko,kg,ds,cur2,ro2,n,nm,m2,a1,(hu _ a2).1,(hu _ a2).2.trans a3,a4,(hu _ a5).1,(hu _ a5).2.trans a6⟩
structure Dp (G:PG) (d:PD):Prop where
 p:G.ap<d.c
 s:G.sb<d.c
 ne:G.ap≠G.sb
 hp:d.h.get G.ap=some (.cells (F8 G.sv G.fo d.P) 0 false)
 hs:d.h.get G.sb=some (.cells [(.map (some G.m), 0),(.slice d.la.a d.la.n d.la.e, 0)] 0 false)
 la:X4 1 d.c d.h d.la (d.L.map a4P)
 lo:∀ i,d.la.own i→i≠G.ap∧i≠G.sb∧¬ d.oa.own i
 oa:∃ Rs,X4 9 d.c d.h d.oa (Rs.flatMap a2y)∧RIs d.V d.h Rs d.S
 oo:∀ i,d.oa.own i→i≠G.ap∧i≠G.sb
 vf:∀ i,d.V i→Frz G d i
 pc:d.V G.pc
 hpc:d.h.get G.pc=some (.cells [(.pointer (some ⟨G.ap, 0,some 0⟩), 0)] 0 false)
 sc:ScM d.V d.h G.m G.F
 sm:d.L.length<900000∧d.S.length<900000000∧d.lb<4294967296
structure PU (G:PG) (d d':PD):Prop where
 le:d.c≤d'.c
 fr:∀ i,d.V i→d'.h.get i=d.h.get i
 la:∀ i,i<d.c→d'.la.own i→d.la.own i
 oa:∀ i,i<d.c→d'.oa.own i→d.oa.own i
 vm:∀ i,d.V i→d'.V i
 vn:∀ i,d'.V i→d.V i∨(d.c≤i∧i<d'.c∧¬ d'.la.own i∧¬ d'.oa.own i)
theorem PU.vf {G d d'}(H:PU G d d')(D:Dp G d){i}(hi:d'.V i):Frz G d' i:=by have hp:=D.p;have hs:=D.s;rcases H.vn i hi with h|⟨h1,h2,h3,h4⟩;have hf:=D.vf i h;exact⟨wD hf.1 H.le,hf.2.1,hf.2.2.1,λho=>hf.2.2.2.1 (H.la i hf.1 ho),λho=>hf.2.2.2.2 (H.oa i hf.1 ho)⟩;exact⟨h2,zy,zy,h3,h4⟩
theorem PU.stp {G d d'}(H:PU G d d')(fr:∀i,Frz G d i->d'.h.get i=d.h.get i):Stp G d d':=⟨H.le,λi hi=>⟨⟨wD hi.1 H.le,hi.2.1,hi.2.2.1,λh=>hi.2.2.2.1 (H.la i hi.1 h),λh=>hi.2.2.2.2 (H.oa i hi.1 h)⟩,fr i hi⟩,λi hi=>by rcases H.vn i hi with h|h;exact Or.inl h;exact Or.inr h.1,H.vm⟩
theorem Dp.go {G d d'}(H:Dp G d)(U:PU G d d')(hp:d'.h.get G.ap=some (.cells (F8 G.sv G.fo d'.P) 0 false))(hs:d'.h.get G.sb=some (.cells [(.map (some G.m),0),(.slice d'.la.a d'.la.n d'.la.e,0)] 0 false))(la:X4 1 d'.c d'.h d'.la (d'.L.map a4P))(lo:∀i,d'.la.own i->i≠G.ap/\i≠G.sb/\¬d'.oa.own i)(oa:∃Rs,X4 9 d'.c d'.h d'.oa (Rs.flatMap a2y)/\RIs d'.V d'.h Rs d'.S)(oo:∀i,d'.oa.own i->i≠G.ap/\i≠G.sb)(sm:d'.L.length<900000/\d'.S.length<900000000/\d'.lb<4294967296):Dp G d':=⟨wD H.p U.le,wD H.s U.le,H.ne,hp,hs,la,lo,oa,oo,λi hi=>U.vf H hi,U.vm _ H.pc,(U.fr _ H.pc).trans H.hpc,H.sc.mono λi hi=>⟨U.vm i hi,U.fr i hi⟩,sm⟩
def Rdb (G:PG)(d:PD)(i:Nat):Prop:=Frz G d i\/i=G.sb\/d.la.own i
theorem Dp.rdb {G d}(H:Dp G d){i}(hi:Rdb G d i):i<d.c/\i≠G.ap:=by rcases hi with h|rfl|h;exact⟨h.1,h.2.1⟩;exact⟨H.s,λe=>H.ne e.symm⟩;exact⟨H.la.own_lt h,(H.lo i h).1⟩
theorem Dp.env {G d}(H:Dp G d):Env (Rdb G d) d.h G.sv G.F d.L:=by
 refine⟨λk hk=>?_,H.sc.good,⟨?_,H.sm.1⟩⟩;obtain⟨es,h1,h2⟩:=H.sc.es;obtain⟨kb,ko,kg,ds,cur2,ro2,n,nm,m2,a1,a2,a3,a4,a5,a6⟩:=h2 k hk;exact⟨G.sb,0,0,_,0,false,G.m,_,es,kb,ko,kg,ds,cur2,ro2,n,nm,m2,rfl,Or.inr (Or.inl rfl),H.hs,rfl,Or.inl (H.vf _ H.sc.hm),h1,a1,Or.inl (H.vf _ a2),a3,a4,Or.inl (H.vf _ a5),a6⟩;refine⟨G.sb,0,0,_,0,false,G.m,d.la,rfl,Or.inr (Or.inl rfl),H.hs,rfl,?_⟩;obtain⟨h1,h2|⟨ab,g,cs,h2,h3,h4,h5,h6,h7⟩⟩:=H.la;refine⟨by rw[h1,uu],Or.inl ?_⟩;have:(d.L.map a4P).length=0:=by rw[h1,h2];rfl
 exact uz.1 this;exact⟨by rw[h1,uu],Or.inr ⟨ab,0,g,cs,g,false,h2,h3,Or.inr (Or.inr ⟨_,h2,rfl⟩),h5,by rw[a0i];exact h7⟩⟩
theorem Dp.pt {G d}(H:Dp G d):Pt (Rdb G d) d.h G.sv G.fo G.ap d.c d.h d.P:=⟨λi hi=>⟨(H.rdb hi).1,(H.rdb hi).2,rfl⟩,H.p,H.hp⟩
theorem Dp.lan {G d}(H:Dp G d):d.la.n=d.L.length:=by have:=H.la.1;rw[wF,uu]at this;exact this.symm
theorem d3t:∀Rs:List RV,(Rs.flatMap a2y).length=Rs.length*9:=by intro Rs;induction Rs with|nil=>rfl|cons R Rs ih=>rw[vU,wG,ih,wI];show 9+_=_;omega
theorem Dp.oan {G d}(H:Dp G d):d.oa.n=d.S.length:=by obtain⟨Rs,h1,h2⟩:=H.oa;have:=h1.1;rw[d3t,h2.len]at this;omega
theorem Dp.rd {G d}(H:Dp G d){c' p e h'}(hc:d.c<=c')(hs:∀i,i<d.c->i≠G.ap->h'.get i=d.h.get i)(hp:h'.get G.ap=some (.cells (F8 G.sv G.fo ⟨d.oa,d.lb,p,e⟩) 0 false)):Dp G {d with c:=c',h:=h',p:=p,e:=e,V:=λi=>d.V i\/d.c<=i/\i<c'}/\Stp G d {d with c:=c',h:=h',p:=p,e:=e,V:=λi=>d.V i\/d.c<=i/\i<c'}:=by obtain⟨Rs,h1,h2⟩:=H.oa;have U:PU G d {d with c:=c',h:=h',p:=p,e:=e,V:=λi=>d.V i\/d.c<=i/\i<c'}:=⟨hc,λi hi=>hs i (H.vf i hi).1 (H.vf i hi).2.1,λ_ _ h=>h,λ_ _ h=>h,λi hi=>Or.inl hi,λi hi=>by rcases hi with h|⟨h,h'⟩;exact Or.inl h;exact Or.inr ⟨h,h',λho=>by have:=H.la.own_lt ho;omega,λho=>by have:=h1.own_lt ho;omega⟩⟩;refine⟨H.go U hp ((hs _ H.s (λe=>H.ne e.symm)).trans H.hs) (H.la.mono hc λb hb ho=>hs b hb (H.lo b ho).1) H.lo ?_ H.oo H.sm,U.stp λi hi=>hs i hi.1 hi.2.1⟩;exact⟨Rs,h1.mono hc λb hb ho=>hs b hb (H.oo b ho).1,h2.mono λi hi=>⟨Or.inl hi,U.fr i hi⟩⟩
theorem Dp.wr {G d}(H:Dp G d){c' h'}{O:Nat->Prop}(hO:∀i,O i->Frz G d i/\¬d.V i)(hc:d.c<=c')(hs:∀i,i<d.c->¬O i->h'.get i=d.h.get i):Dp G {d with c:=c',h:=h'}:=by obtain⟨Rs,h1,h2⟩:=H.oa;have U:PU G d {d with c:=c',h:=h'}:=⟨hc,λi hi=>hs i (H.vf i hi).1 λho=>(hO i ho).2 hi,λ_ _ h=>h,λ_ _ h=>h,λi hi=>hi,λi hi=>Or.inl hi⟩;refine H.go U ((hs _ H.p λho=>(hO _ ho).1.2.1 rfl).trans H.hp) ((hs _ H.s λho=>(hO _ ho).1.2.2.1 rfl).trans H.hs) (H.la.mono hc λb hb ho=>hs b hb λhb'=>(hO b hb').1.2.2.2.1 ho) H.lo ?_ H.oo H.sm;exact⟨Rs,h1.mono hc λb hb ho=>hs b hb λhb'=>(hO b hb').1.2.2.2.2 ho,h2.mono λi hi=>⟨hi,U.fr i hi⟩⟩
theorem Stp.wr {G d0 d}(H:Stp G d0 d){c' h'}(hc:d.c<=c')(hs:∀i,i<d0.c->h'.get i=d.h.get i):Stp G d0 {d with c:=c',h:=h'}:=⟨vQ H.le hc,λi hi=>⟨⟨wD (H.fz i hi).1.1 hc,(H.fz i hi).1.2⟩,(hs i hi.1).trans (H.fz i hi).2⟩,H.vn,H.vm⟩
theorem RIat.u {d:PD}{c' h' R X}(h:RIat d.c c' h' R X):RIu (λi=>d.V i\/d.c<=i/\i<c') h' R X:=⟨h.e,h.ts.mono λi hi=>⟨Or.inr hi,rfl⟩,h.ls.mono λi hi=>⟨Or.inr hi,rfl⟩⟩
theorem c7E (n a):o8 D8 (n+1) 79 [a]=b7D o9 NN (o8 D8 n) a:=Z5 (q:=b7D) (N:=NN) zw n a
theorem e3P (n a b):o8 D8 (n+1) 69 [a,b]=c5P o9 NN (o8 D8 n) a b:=a2h (q:=c5P) (N:=NN) zw n a b
theorem d5p (n a):o8 D8 (n+1) 77 [a]=c7I o9 NN (o8 D8 n) a:=Z5 (q:=c7I) (N:=NN) zw n a
theorem e1P (n a b):o8 D8 (n+1) 111 [a,b]=b9Q o9 NN (o8 D8 n) a b:=a2h (q:=b9Q) (N:=NN) zw n a b
theorem d9B (n a):o8 D8 (n+1) 112 [a]=b9B o9 NN (o8 D8 n) a:=Z5 (q:=b9B) (N:=NN) zw n a
theorem a2H (n)(h:n<4294967296):Q0 .i64 (Int.ofNat (n+1)-Int.ofNat 1)=Int.ofNat n:=by
 have e:(Int.ofNat (n+1)-Int.ofNat 1:Int)=Int.ofNat n:=by show(((n+1:Nat):Int)-1:Int)=((n:Nat):Int);omega
 rw[e];exact a4Y .i64 n (by show n<9223372036854775808;omega)
theorem e8S {α β}(x:Option (α×V.S))(f k k'):a1L (R8 x f) k k'=R8 x λa=>o9.bc β (f a) k k':=by cases x with|none=>rfl|some y=>exact(c5Q _ _ _ _).symm
structure Nx (G:PG) (d:PD) (s:V.S) (d':PD):Prop where
 c:s.c=d'.c
 h:s.h=d'.h
 dp:Dp G d'
 st:Stp G d d'
theorem c6O {G d}(H:Dp G d)(m nm)(hL:d.L.length+1<900000)(hb:d.lb+1<4294967296)(r w):l9 (go (o8 D8 (m+3) 111 [.pointer (some ⟨G.ap,0,some 0⟩),.string ⟨⟨nm⟩⟩]) ⟨d.c,d.h,r,w⟩) λx s=>x=.ret (.tuple ⟨[]⟩)/\∃d',Nx G d s d'/\d'.L=d.L++[nm]/\d'.lb=d.lb+1/\d'.S=d.S/\d'.p=d.p/\d'.e=d.e:=by
 obtain⟨c,h,la,oa,lb,p,e,L,S,VV⟩:=d;have hp:=H.hp;have hs:=H.hs;have a1:=H.p;have a2:=H.s;have a3:=H.ne;have a4:G.ap≠c:=by dsimp only at a1;omega
 have a5:G.sb≠c:=by dsimp only at a2;omega
 have a6:G.sb≠G.ap:=λe=>a3 e.symm;simp only at hp hs a1 a2 hL hb;have hlan:=H.lan;simp only at hlan;have hinc:=J6 lb zy;obtain⟨Rs,o1,o2⟩:=H.oa;simp only at o1 o2;have hla:X4 1 c h la (L.map a4P):=H.la;have hlt:=λ{i:Nat} (hi:la.own i)=>H.la.own_lt hi;rw[e1P];simp(disch:=try exact dz)only[e9u,hp,F8,PD.P,PG.sv,e3P,G69,c7E,G79,hs,e8S,b3r,b3F,↓gP,gY];refine l9.bindS (a5b (x:=⟨some ⟨c,0,some 0⟩,1,1⟩) (xs:=[a4P nm]) d4y zu d4b (hla.mono (vv c) λb k1 k2=>?_) ⟨rfl,Or.inr ⟨c,0,0,[(a4P nm,0)],0,false,rfl,rfl,wE _,o7 _ _ _,rfl⟩⟩ rfl ?_ _ _) λy s hq=>?_;simp(disch:=omega)only[d9];dsimp only;omega;obtain⟨c',h',r',w'⟩:=s;obtain⟨u',rfl,hn',hg,hc,hs2,hown,hww⟩:=hq;simp only at hg hc hs2 hn';have hs3:∀i,i<c->¬la.own i->h'.get i=h.get i:=λi k1 k2=>by have:=hs2 i zy k2;simp(disch:=omega)only[d9]at this;exact this
 have hown':∀i,u'.own i->la.own i\/c<=i:=λi k=>by rcases ui i (c+1)with k1|k1;exact Or.inl (hown i k1 k);exact Or.inr zy
 have hs':=(hs3 _ a2 λk=>(H.lo _ k).2.1 rfl).trans hs;have hp':=(hs3 _ a1 λk=>(H.lo _ k).1 rfl).trans hp;have a1':G.ap<c':=zy;have a2':G.sb<c':=zy;simp(disch:=try exact dz)only[hs',hp',F8,PD.P,hinc,↓gP,gY];refine l9.done ?_;have U:PU G ⟨c,h,la,oa,lb,p,e,L,S,VV⟩ ⟨c',V.upd (V.upd h' G.sb (.cells [(.map (some G.m),0),(.slice u'.a u'.n u'.e,0)] 0 false)) G.ap (.cells (F8 G.sv G.fo ⟨oa,lb+1,p,e⟩) 0 false),u',oa,lb+1,p,e,L++[nm],S,VV⟩:=by refine⟨zV,λi k=>?_,λi k1 k2=>?_,λi k1 k2=>k2,λi k=>k,λi k=>Or.inl k⟩;obtain⟨k1,k2,k3,k4,k5⟩:=H.vf i k;dsimp only at k1 k4⊢;simp(disch:=first|assumption|omega)only[d9];exact hs3 i k1 k4;rcases hown' i k2 with k|k;exact k;dsimp only at k1;omega
 refine⟨rfl,_,⟨rfl,rfl,H.go U ?_ ?_ ?_ ?_ ?_ H.oo ?_,U.stp λi k=>?_⟩,rfl,rfl,rfl,rfl,rfl⟩;exact o7 _ _ _;simp(disch:=first|assumption|omega)only[d9,o7];refine(ul▸hg:X4 1 c' h' u' ((L++[nm]).map a4P)).mono (wQ _) λb k1 k2=>?_;have k3:b≠G.ap/\b≠G.sb:=by rcases hown' b k2 with k|k;exact⟨(H.lo b k).1,(H.lo b k).2.1⟩;omega
 obtain⟨k3,k4⟩:=k3;simp(disch:=first|assumption|omega)only[d9];intro i k;dsimp only at k;rcases hown' i k with k1|k1;exact H.lo i k1;exact⟨zy,zy,λho=>by have:=o1.own_lt ho;omega⟩;refine⟨Rs,o1.mono (vQ (vv c) hc) λb k1 k2=>?_,o2.mono λi k=>⟨k,?_⟩⟩;have k3:=(H.oo b k2).1;have k4:=(H.oo b k2).2;simp(disch:=first|assumption|omega)only[d9];exact hs3 b k1 λk=>(H.lo b k).2.2 k2;obtain⟨k1,k2,k3,k4,k5⟩:=H.vf i k;dsimp only at k1 k4⊢;simp(disch:=first|assumption|omega)only[d9];exact hs3 i k1 k4;have:=H.sm;dsimp only at this⊢;rw[wG];exact⟨hL,this.2.1,hb⟩;obtain⟨k1,k2,k3,k4,k5⟩:=k;dsimp only at k1 k4⊢;simp(disch:=first|assumption|omega)only[d9];exact hs3 i k1 k4
theorem d9S {G d}(H:Dp G d)(m)(hL:d.L≠[])(hb:0<d.lb)(r w):l9 (go (o8 D8 (m+3) 112 [.pointer (some ⟨G.ap,0,some 0⟩)]) ⟨d.c,d.h,r,w⟩) λx s=>x=.ret (.tuple ⟨[]⟩)/\∃d',Nx G d s d'/\d'.L=d.L.dropLast/\d'.lb+1=d.lb/\d'.S=d.S/\d'.p=d.p/\d'.e=d.e/\d'.V=d.V:=by
 obtain⟨c,h,la,oa,lb,p,e,L,S,VV⟩:=d;have hp:=H.hp;have hs:=H.hs;have a1:=H.p;have a2:=H.s;have a3:=H.ne;have a6:G.sb≠G.ap:=λe=>a3 e.symm;simp only at hp hs a1 a2 hL hb;have hlan:=H.lan;simp only at hlan;have hsm:=H.sm;simp only at hsm;obtain⟨lb,rfl⟩:∃k,lb=k+1:=⟨lb-1,zy⟩;have hdec:=a2H lb zy;obtain⟨j,hj⟩:∃j,L.length=j+1:=⟨L.length-1,by have:=List.length_pos_iff.2 hL;omega⟩;have hdec2:=a2H j zy;obtain⟨la,ln,le⟩:=la;simp only at hlan;rw[hj]at hlan;subst hlan;obtain⟨hl1,hor⟩:=H.la;rcases hor with h0|⟨ab,g,cs,h2,h3,h4,h5,h6,h7⟩;exfalso;cases h0;simp only at h2 h3 h4 h5;subst h2;subst h3;rw[d9B];have e0:decide (Int.ofNat 0<Int.ofNat (j+1))=true:=wL (uk.2 (qz j));have e1:=λk=>b1l 1 ab 0 g (j+1) j k (vv j) zu;simp(disch:=try exact dz)only[e9G,hp,F8,PD.P,PG.sv,d5p,G77,c7E,G79,hs,hdec,hdec2,b3r,b3F,e0,e1,↓gP,gY,Nat.reduceEqDiff];refine l9.done ?_;have U:PU G ⟨c,h,⟨some ⟨ab,0,some g⟩,j+1,1⟩,oa,lb+1,p,e,L,S,VV⟩ ⟨c,V.upd (V.upd h G.sb (.cells [(.map (some G.m),0),(.slice (some ⟨ab,0,some g⟩) j 1,0)] 0 false)) G.ap (.cells (F8 G.sv G.fo ⟨oa,lb,p,e⟩) 0 false),⟨some ⟨ab,0,some g⟩,j,1⟩,oa,lb,p,e,L.dropLast,S,VV⟩:=yK;obtain⟨Rs,o1,o2⟩:=H.oa;refine⟨rfl,_,⟨rfl,rfl,H.go U ?_ ?_ ?_ H.lo ?_ H.oo ?_,U.stp λi k=>?_⟩,rfl,rfl,rfl,rfl,rfl,rfl⟩;exact o7 _ _ _;simp(disch:=first|assumption|omega)only[d9,o7];have hg:=(H.la.cut (j:=j) (wE j)).mono (h':=V.upd (V.upd h G.sb (.cells [(.map (some G.m),0),(.slice (some ⟨ab,0,some g⟩) j 1,0)] 0 false)) G.ap (.cells (F8 G.sv G.fo ⟨oa,lb,p,e⟩) 0 false)) (wQ _) λb k1 k2=>wz;rw[<-nM,uu]at hg;have e2:L.take j=L.dropLast:=by rw[pq,hj];rfl
 simp only[e2]at hg;exact hg;refine⟨Rs,o1.mono (wQ _) λb k1 k2=>?_,o2.mono λi k=>⟨k,?_⟩⟩;have k3:=(H.oo b k2).1;have k4:=(H.oo b k2).2;simp(disch:=first|assumption|omega)only[d9];obtain⟨k1,k2,k3,k4,k5⟩:=H.vf i k;simp(disch:=first|assumption|omega)only[d9];dsimp only;rw[rz];exact⟨zy,hsm.2.1,zy⟩;obtain⟨k1,k2,k3,k4,k5⟩:=k;simp(disch:=first|assumption|omega)only[d9]
end Go.Proofs.YtmomonnlmbljoaaGreatDoor
end
section
namespace Go.Proofs.YtmomonnlmbljoaaGreatDoor
open Go.V Go.RowKit Go.Shelf Go.Proofs
variable {mL:Int}
inductive Ps where
 | ok (T:List AI)
 | er (p e:Nat)
structure Bk where
 p:Nat
 op:Nat
 el:Bool
def aiE (op:Nat):AI:=⟨op,0,0,0,0,0,0,[],[]⟩
noncomputable def a3X (T:List UInt8):Bool:=beqBytes T [101,108,115,101]
noncomputable def isEn (T:List UInt8):Bool:=beqBytes T [101,110,100]
def blkB (op:Nat):Bool:=decide (op=2)||(decide (op=3)||decide (op=4))
noncomputable def a3q (fold:List (List UInt8)->Nd->Ps)(F:Nat->List (Value×Value))(l:List Nd):Nat->Nat->List Bk->List (List UInt8)->List AI->Ps
 |0,_,_,_,_=>.er 0 1|k+1,i,bs,L,T=>match l[i]? with
  |none=>match bs with|[]=>.ok T|b::_=>.er b.p 3
  |some n=>bcase (decide (n.k=0)) (match fold L n with|.ok T1=>a3q fold F l k (i+1) bs L (T++T1)|.er p e=>.er p e) (bcase (decide (n.k=2)) (bcase (a3X n.t||isEn n.t) (match bs with|[]=>.er n.p 16|b::bs'=>bcase (a3X n.t) (bcase (decide (b.op=4)&& !b.el) (a3q fold F l k (i+1) (⟨b.p,b.op,true⟩::bs') L (T++[aiE 5])) (.er n.p 16)) (a3q fold F l k (i+1) bs' L.dropLast (T++[aiE 11]))) (match a1v F L l i n with|.er p e=>.er p e|.ok X nm nx=>bcase (blkB X.op) (a3q fold F l k nx (⟨n.p,X.op,false⟩::bs) (L++[nm]) (T++[X])) (a3q fold F l k nx bs L (T++[X])))) (.er n.p 4))
noncomputable def a0k (fold:List (List UInt8)->Nd->Ps)(F:Nat->List (Value×Value))(L:List (List UInt8))(l:List Nd):Ps:=a3q fold F l (l.length+1) 0 [] L []
noncomputable def a7P (fold:Nd->Ps):List Nd->List AI->Ps|[],T=>.ok T|y::ys,T=>bcase (decide (y.k=0)) (match fold y with|.ok T1=>a7P fold ys (T++T1)|.er p e=>.er p e) (.er y.p 4)
noncomputable def b4g (row:List Nd->Ps)(T:List AI):List Nd->Ps|[]=>.ok (T++[aiE 11])|z::zs=>bcase (a0A z.k (a0V z.l) [101,108,115,101]) (match row z.l.tail with|.ok T2=>(match zs with|[]=>.ok (T++[aiE 5]++T2++[aiE 11])|u::_=>.er u.p 4)|.er p e=>.er p e) (.er z.p 4)
noncomputable def ifS (fold:Nd->Ps)(row:List Nd->Ps)(q:Nat)(X:AI):List Nd->List AI->Ps|[],_=>.er q 4|y::ys,T=>bcase (a0A y.k (a0V y.l) [116,104,101,110]) (match row y.l.tail with|.ok T1=>b4g row (T++[X]++T1) ys|.er p e=>.er p e) (bcase (decide (y.k=0)) (match fold y with|.ok T1=>ifS fold row q X ys (T++T1)|.er p e=>.er p e) (.er y.p 4))
noncomputable def a6T (row:List Nd->Ps)(X:AI)(l:List Nd):Ps:=match row l with|.ok T=>.ok ([X]++T++[aiE 11])|.er p e=>.er p e
noncomputable def a6Y (fold:Nd->Ps)(X:AI)(l:List Nd):Ps:=match a7P fold l []with|.ok T=>.ok (T++[X])|.er p e=>.er p e
noncomputable def I9 (F:Nat->List (Value×Value)):Nat->List (List UInt8)->Nd->Ps|0,_,_=>.er 0 1|n+1,L,x=>match x.l with|[]=>.er x.p 4|w::_=>bcase (decide (w.k=2)) (bcase (a3X w.t||isEn w.t) (.er w.p 16) (match a1v F L x.l 0 w with|.er p e=>.er p e|.ok X nm nx=>bcase (decide (X.op=2)||decide (X.op=3)) (a6T (a0k (I9 F n) F (L++[nm])) X (x.l.drop nx)) (bcase (decide (X.op=4)) (ifS (I9 F n L) (a0k (I9 F n) F (L++[nm])) w.p X (x.l.drop nx) []) (a6Y (I9 F n L) X (x.l.drop nx))))) (.er x.p 4)
noncomputable def Nd.z:Nd->Nat:=Nd.rec (motive_1:=λ_=>Nat) (motive_2:=λ_=>Nat) (λ_ _ _ _ n=>4+n) 0 (λ_ _ a b=>a+b)
noncomputable def zs:List Nd->Nat|[]=>0|x::l=>x.z+zs l
theorem a8J (x:Nd):x.z=4+zs x.l:=by obtain⟨k,p,t,l⟩:=x;show 4+Nd.rec_1 (motive_1:=λ_=>Nat) (motive_2:=λ_=>Nat) (λ_ _ _ _ n=>4+n) 0 (λ_ _ a b=>a+b) l=4+zs l;congr 1;induction l with|nil=>rfl|cons y l ih=>show y.z+_=y.z+zs l;rw[ih]
theorem a9i {l:List Nd}{i x}(h:l[i]?=some x):zs (l.drop i)=x.z+zs (l.drop (i+1)):=by induction l generalizing i with|nil=>cases h|cons y l ih=>cases i with|zero=>cases h;rfl|succ i=>exact ih h
theorem c7o (l:List Nd):∀i j,i<=j->zs (l.drop j)<=zs (l.drop i):=by
 intro i j h;induction j with
  |zero=>have:i=0:=zy;subst this;exact wQ _|succ j ih=>
   rcases Nat.lt_or_eq_of_le h with h1|h1;have h2:=ih zy;cases e:l[j]? with|none=>have:=qc.1 e;have e2:l.drop (j+1)=[]:=tQ zy;rw[e2];exact vC _|some x=>have:=a9i e;omega
   rw[h1];exact wQ _
theorem d4N {l:List Nd}{i j}(h:i<j)(hl:i<l.length):zs (l.drop j)+4<=zs (l.drop i):=by have h1:=a9i (wO hl);have h2:=c7o l (i+1) j h;have h3:=a8J l[i];omega
theorem c1n {l x}{i:Nat}(h:l[i]?=some x):x.z<=zs l:=by have h1:=a9i h;have h2:=c7o l 0 i (vC _);rw[uC]at h2;omega
theorem d6K (l i):zs (l.drop i)<=zs l:=by have h2:=c7o l 0 i (vC _);rwa[uC]at h2
end Go.Proofs.YtmomonnlmbljoaaGreatDoor
end
section
namespace Go.Proofs.YtmomonnlmbljoaaGreatDoor
open Go.V Go.RowKit Go.Shelf Go.Proofs
variable {mL:Int}
attribute [local congr] y7 x9 A8 A7 D5 z8 E5 G8 G7
def rvE (op:Nat):RV:=⟨0,op,0,0,0,0,0,0,⟨none,0,0⟩,⟨none,0,0⟩,[]⟩
theorem riE (U h op):RIu U h (rvE op) (aiE op):=⟨⟨rfl,rfl,rfl,rfl,rfl,rfl,rfl⟩,⟨rfl,Or.inl rfl⟩,⟨rfl,Or.inl rfl⟩⟩
theorem Dp.oan' {G d}(H:Dp G d){i}(h:d.oa.own i):i<d.c:=by obtain⟨Rs,h1,_⟩:=H.oa;exact h1.own_lt h
theorem d3H {G d}(H:Dp G d){R X}(hR:RIu d.V d.h R X)(hS:d.S.length+1<900000000){c1 b h1 cs}(hc:d.c<=c1)(hh:∀i,i<d.c->h1.get i=d.h.get i)(b2:b<c1)(hb:h1.get b=some (.cells cs 0 false))(ht:y8 0 cs 9=some (a2y R))(r w):l9 (go (a4F b3b (.slice d.oa.a d.oa.n d.oa.e) (.slice (some ⟨b,0,some 0⟩) 1 9)) ⟨c1,h1,r,w⟩) λy s=>∃u',y=.slice u'.a u'.n u'.e/\c1<=s.c/\(∀i,i<d.c->¬d.oa.own i->s.h.get i=d.h.get i)/\(∀i,d.c<=i->i<c1->s.h.get i=h1.get i)/\(∀i∈s.w,i∈w\/d.oa.own i\/d.c<=i)/\∀h2,(∀i,i≠G.ap->h2.get i=s.h.get i)->h2.get G.ap=some (.cells (F8 G.sv G.fo ⟨u',d.lb,d.p,d.e⟩) 0 false)->Dp G {d with c:=s.c,h:=h2,oa:=u',S:=d.S++[X]}/\Stp G d {d with c:=s.c,h:=h2,oa:=u',S:=d.S++[X]}:=by
 obtain⟨Rs,o1,o2⟩:=H.oa;have hoan:=H.oan;refine(a5b (x:=⟨some ⟨b,0,some 0⟩,1,9⟩) (xs:=a2y R) d9v zu e0p (o1.mono hc λi k1 k2=>hh i k1) ⟨rfl,Or.inr ⟨b,0,0,_,0,false,rfl,rfl,b2,hb,?_⟩⟩ rfl ?_ r w).mono ?_;rw[a0i];exact ht;dsimp only;omega;rintro y s ⟨u',rfl,hn',hg,hc2,hs2,hown,hww⟩;have hs3:∀i,i<d.c->¬d.oa.own i->s.h.get i=d.h.get i:=λi k1 k2=>(hs2 i zy k2).trans (hh i k1);have hown':∀i,u'.own i->d.oa.own i\/d.c<=i:=λi k=>by rcases ui i c1 with k1|k1;exact Or.inl (hown i k1 k);exact Or.inr zy
 refine⟨u',rfl,hc2,hs3,λi k1 k2=>hs2 i k2 λho=>by have:=H.oan' ho;omega,λi hi=>?_,λh2 q1 q2=>?_⟩;rcases hww i hi with k|k|k;exact Or.inl k;exact Or.inr (Or.inl k);exact Or.inr (Or.inr zy);have hp:=H.p;have hs:=H.s;have key:∀i,i<d.c->¬d.oa.own i->i≠G.ap->h2.get i=d.h.get i:=λi k1 k2 k3=>(q1 i k3).trans (hs3 i k1 k2);have U:PU G d {d with c:=s.c,h:=h2,oa:=u',S:=d.S++[X]}:=by refine⟨zV,λi k=>?_,λi k1 k2=>k2,λi k1 k2=>?_,λi k=>k,λi k=>Or.inl k⟩;obtain⟨k1,k2,k3,k4,k5⟩:=H.vf i k;exact key i k1 k5 k2;rcases hown' i k2 with k|k;exact k;omega
 refine⟨H.go U q2 ?_ ?_ ?_ ?_ ?_ ?_,U.stp λi k=>key i k.1 k.2.2.2.2 k.2.1⟩;exact(key _ hs (λho=>(H.oo _ ho).2 rfl) λe=>H.ne e.symm).trans H.hs;exact H.la.mono zV λi k1 k2=>key i k1 (H.lo i k2).2.2 (H.lo i k2).1;intro i k;refine⟨(H.lo i k).1,(H.lo i k).2.1,λho=>?_⟩;rcases hown' i ho with k1|k1;exact(H.lo i k).2.2 k1;have:=H.la.own_lt k;omega;refine⟨Rs++[R],?_,?_⟩;rw[uM,sQ];exact hg.mono (wQ _) λi k1 k2=>q1 i λe=>by subst e;rcases hown' _ k2 with k|k;exact(H.oo _ k).1 rfl;omega
 refine(o2.snoc hR).mono λi k=>⟨k,?_⟩;obtain⟨k1,k2,k3,k4,k5⟩:=H.vf i k;exact key i k1 k5 k2;intro i k;rcases hown' i k with k|k;exact H.oo i k;exact⟨zy,zy⟩;have:=H.sm;dsimp only;rw[wG];exact⟨this.1,hS,this.2.2⟩
def a0j (b:Bk):List Value:=[.int .i64 (.ofNat b.p),.int .i64 (.ofNat b.op),.bool b.el]
theorem a8L {l m}(h:∀i,i∈l->i∉m):a0e l m=true:=(b5M l m).2 h
end Go.Proofs.YtmomonnlmbljoaaGreatDoor
end
section
namespace Go.Proofs.YtmomonnlmbljoaaGreatDoor
open Go.V Go.RowKit Go.Shelf Go.Proofs
variable {mL:Int}
attribute [local congr] y7 x9 A8 A7 D5 z8 E5 G8 G7
def a3H (G:PG)(d:PD)(z:Nat)(ps:Ps)(x:Value)(s:V.S):Prop:=∃d',Nx G d s d'/\((∃T,ps=.ok T/\x=.bool true/\d'.L=d.L/\d'.lb=d.lb/\d'.S=d.S++T/\d'.p=d.p/\d'.e=d.e/\T.length<=z)\/(∃p e X,ps=.er p e/\x=.bool false/\d'.p=p/\d'.e=e/\d'.L=d.L++X/\d'.lb=d.lb+X.length))
def b3o (G:PG)(d:PD)(z:Nat)(ps:Ps)(x:CR)(s:V.S):Prop:=∃v,x=.ret v/\a3H G d z ps v s
def Sml (d:PD)(z:Nat):Prop:=d.S.length+z<800000000/\d.L.length+z<800000/\d.lb+z<4000000000
def a2l (G:PG)(n K:Nat):Prop:=∀(d:PD) (x:Nd) (lv:Sl) (m:Nat) (r w:List Nat),Dp G d->x.z<=n->x.k=0->NdL (Frz G d) d.h lv x.l->Sml d x.z->l9 (go (o8 D8 (m+K) 71 [ndV x lv,.pointer (some ⟨G.pc,0,some 0⟩)]) ⟨d.c,d.h,r,w⟩) (b3o G d x.z (I9 G.F n d.L x))
theorem b2M (G:PG)(v k):c4r G.fo [v] k=k 71 [v,.pointer (some ⟨G.pc,0,some 0⟩)]:=wJ rfl rfl
theorem d0L {G d z ps x}(h:l9 x (b3o G d z ps)):l9 (a1L x M.pure λ_=>M.fail) (a3H G d z ps):=by refine l9.bindC h λx s hq=>?_;obtain⟨v,rfl,hq⟩:=hq;exact⟨v,s,rfl,hq⟩
theorem e6X (n a b):o8 D8 (n+1) 76 [a,b]=c5j o9 NN (o8 D8 n) a b:=a2h (q:=c5j) (N:=NN) zw n a b
structure RI (G:PG) (d0 d:PD) (l:List Nd) (i:Nat) (bs:List Bk) (bl:Sl) (T:List AI):Prop where
 dp:Dp G d
 st:Stp G d0 d
 gb:X4 3 d.c d.h bl (bs.reverse.flatMap a0j)
 own:∀ j,bl.own j→d0.c≤j∧Frz G d j∧¬ d.V j
 S:d.S=d0.S ++ T
 L:∃ X,X.length=bs.length∧d.L=d0.L ++ X
 lb:d.lb=d0.lb+bs.length
 p:d.p=d0.p
 e:d.e=d0.e
 z1:T.length+zs (l.drop i)≤zs l
 z2:bs.length+zs (l.drop i)≤zs l
theorem a3a:∀bs:List Bk,(bs.flatMap a0j).length=bs.length*3:=xZ
theorem RI.bln {G d0 d l i bs bl T}(H:RI G d0 d l i bs bl T):bl.n=bs.length:=by have:=H.gb.1;rw[a3a,uW]at this;omega
theorem RI.to {G d0 d l i bs bl T}(H:RI G d0 d l i bs bl T){c' h'}(hc:d.c<=c')(hs:∀j,j<d.c->h'.get j=d.h.get j):RI G d0 {d with c:=c',h:=h'} l i bs bl T:=⟨H.dp.wr (O:=λ_=>False) (λ_ h=>h.elim) hc λj k _=>hs j k,H.st.wr hc λj k=>hs j (wD k H.st.le),H.gb.mono hc λb k _=>hs b k,λj k=>⟨(H.own j k).1,⟨wD (H.own j k).2.1.1 hc,(H.own j k).2.1.2⟩,(H.own j k).2.2⟩,H.S,H.L,H.lb,H.p,H.e,H.z1,H.z2⟩
theorem RI.step {G d0 d d' l i i' bs bl T T1}(H:RI G d0 d l i bs bl T)(D:Dp G d')(st:Stp G d d')(hL:d'.L=d.L)(hb:d'.lb=d.lb)(hS:d'.S=d.S++T1)(hp:d'.p=d.p)(he:d'.e=d.e)(hz:T1.length+zs (l.drop i')<=zs (l.drop i)):RI G d0 d' l i' bs bl (T++T1):=by refine⟨D,H.st.trans st,H.gb.mono st.le λb k1 k2=>(st.fz b (H.own b k2).2.1).2,λj k=>⟨(H.own j k).1,(st.fz j (H.own j k).2.1).1,λhv=>?_⟩,?_,?_,hb.trans H.lb,hp.trans H.p,he.trans H.e,?_,?_⟩;rcases st.vn j hv with k1|k1;exact(H.own j k).2.2 k1;have:=(H.own j k).2.1.1;omega;rw[hS,H.S,vw];rw[hL];exact H.L;have:=H.z1;rw[wG];omega;have:=H.z2;omega
theorem RI.sml {G d0 d l i bs bl T}(H:RI G d0 d l i bs bl T)(hs:Sml d0 (zs l)):Sml d (zs (l.drop i)):=by obtain⟨s1,s2,s3⟩:=hs;obtain⟨X,hX,hL⟩:=H.L;have h1:=H.z1;have h2:=H.z2;have h3:=H.lb;refine⟨?_,?_,?_⟩;rw[H.S,wG];omega;rw[hL,wG];omega;omega
theorem Sml.le {d z z'}(h:Sml d z)(hz:z'<=z):Sml d z':=by obtain⟨s1,s2,s3⟩:=h;exact⟨zy,zy,zy⟩
theorem RI.er {G d0 d d' l i bs bl T}(H:RI G d0 d l i bs bl T){s p e z X}(N:Nx G d s d')(hp:d'.p=p)(he:d'.e=e)(hL:d'.L=d.L++X)(hb:d'.lb=d.lb+X.length):a3H G d0 z (.er p e) (.bool false) s:=by obtain⟨Y,hY,hL0⟩:=H.L;refine⟨d',⟨N.c,N.h,N.dp,H.st.trans N.st⟩,Or.inr ⟨p,e,Y++X,rfl,rfl,hp,he,?_,?_⟩⟩;rw[hL,hL0,vw];rw[hb,H.lb,wG,hY];omega
def a8U (G:PG)(d0 d:PD)(n:Nat)(l:List Nd)(i:Nat)(bs:List Bk)(bl:Sl)(T:List AI)(y:Xc×List Value)(s:V.S):Prop:=(∃xs' d' i' bs' bl' T',y=(.normal,xs')/\s.c=d'.c/\s.h=d'.h/\i<i'/\C9 xs' 148=.int .i64 (.ofNat i')/\C9 xs' 143=.slice bl'.a bl'.n bl'.e/\C9 xs' 111=.bool false/\RI G d0 d' l i' bs' bl' T'/\∀k,a3q (I9 G.F n) G.F l (k+1) i bs d.L T=a3q (I9 G.F n) G.F l k i' bs' d'.L T')\/(∃xs' ps,y=(.ret,xs')/\(∀k,a3q (I9 G.F n) G.F l (k+1) i bs d.L T=ps)/\a3H G d0 (zs l) ps (C9 xs' 111) s)
section
variable {G:PG}{d0 d:PD}{n K:Nat}{lv:Sl}{l:List Nd}{i:Nat}{bs:List Bk}{bl:Sl}{T:List AI}{x:Nd}{xs:List Value}
theorem d2S (hF:a2l G n K)(H:RI G d0 d l i bs bl T)(hn:NdL (Frz G d0) d0.h lv l)(hz:zs l<=n)(hs:Sml d0 (zs l))(hi:l[i]?=some x)(hk:x.k=0)(h1:C9 xs 148=.int .i64 (.ofNat i))(h2:C9 xs 143=.slice bl.a bl.n bl.e)(h3:C9 xs 111=.bool false)(m)(r w):l9 (go (a5C o9 NN (o8 D8 (m+K)) (.slice lv.a lv.n lv.e) (.pointer (some ⟨G.ap,0,some 0⟩)) xs) ⟨d.c,d.h,r,w⟩) (a8U G d0 d n l i bs bl T):=by
 have hN:=hn.mono H.st.fz;have hp:=H.dp.hp;have a1:=H.dp.p;have a2:G.ap≠d.c:=zy;have hlen:=hn.len.1;obtain⟨la,ln,le⟩:=lv;simp only at hlen;subst hlen;have hll:=hn.len.2;have hlt:i<l.length:=(wM.1 hi).1;have hinc:=J6 i zy;obtain⟨b,p,g,cs,cur,ro,nl,hb,hg,hNn,hT,e1,e2,e3,e4,e5,e6⟩:=hN.get hi;have hb1:=hb.1;have hb2:b≠d.c:=zy;simp only at e1;have e0:decide (Int.ofNat i<Int.ofNat l.length)=true:=wL (uk.2 hlt);simp(disch:=try exact dz)only[b1c,G76,h1,h2,h3,e1,e2,hg,e0,hk,hp,F8,b2M,↓gP,gY,gT];have H1:=H.to (c':=d.c+1) (h':=V.upd (V.upd d.h d.c (.cells [(.int .i64 (.ofNat 0),0),(.int .i64 (.ofNat 0),0),(.string ⟨⟨[]⟩⟩,0),(.slice none 0 0,0)] 0 false)) d.c (.cells [(.int .i64 (.ofNat 0),0),(.int .i64 (.ofNat x.p),0),(.string ⟨⟨x.t⟩⟩,0),(.slice nl.a nl.n nl.e,0)] 0 false)) (vv _) λj k=>by have k1:j≠d.c:=zy;simp(disch:=first|assumption|omega)only[d9]
 have hzi:=a9i hi;have hcall:=hF _ x nl m [] [] H1.dp (vQ (c1n hi) hz) hk (hNn.mono λj k=>⟨⟨qN k.1,k.2⟩,by have k1:=k.1;have k2:j≠d.c:=zy;simp(disch:=first|assumption|omega)only[d9]⟩) ((H1.sml hs).le zy);unfold ndV at hcall;rw[hk]at hcall;refine l9.footS (d0L hcall) λa s hq=>?_;obtain⟨c',h',r',w'⟩:=s;obtain⟨d',N,⟨T1,eS,rfl,hL,hb2,hS,hp2,he2,hz2⟩|⟨p2,e2,X,eS,rfl,hp2,he2,hL,hb2⟩⟩:=hq;simp(disch:=try exact dz)only[hinc,↓gP,gY,gT];refine l9.done ?_;exact Or.inl ⟨_,d',i+1,bs,bl,T++T1,rfl,N.c,N.h,wE i,rfl,rfl,rfl,H1.step N.dp N.st hL hb2 hS hp2 he2 zy,λk=>by show(match l[i]? with|none=>_|some n=>_)=_;rw[hi];simp only[hk,uE,A9];have eS':I9 G.F n d.L x=.ok T1:=eS;rw[eS'];have hL':d'.L=d.L:=hL;rw[hL']⟩;simp(disch:=try exact dz)only[hinc,↓gP,gY,gT];refine l9.done ?_;exact Or.inr ⟨_,_,rfl,λk=>by show(match l[i]? with|none=>_|some n=>_)=_;rw[hi];simp only[hk,uE,A9];have eS':I9 G.F n d.L x=.er p2 e2:=eS;rw[eS'],H1.er ⟨N.c,N.h,N.dp,N.st⟩ hp2 he2 hL hb2⟩
end
end Go.Proofs.YtmomonnlmbljoaaGreatDoor
end
section
namespace Go.Proofs.YtmomonnlmbljoaaGreatDoor
open Go.V Go.RowKit Go.Shelf Go.Proofs
variable {mL:Int}
attribute [local congr] y7 x9 A8 A7 D5 z8 E5 G8 G7
theorem di (a b):decide (Int.ofNat a=Int.ofNat b)=decide (a=b):=qm.2 ⟨λh=>sZ h,λh=>by rw[h]⟩
theorem b0P:beqBytes [101,108,115,101] [101,108,115,101]=true:=wJ rfl rfl
theorem b5N:beqBytes [101,108,115,101] [101,110,100]=false:=wJ rfl rfl
theorem c0e:beqBytes [101,110,100] [101,108,115,101]=false:=wJ rfl rfl
theorem b9E:beqBytes [101,110,100] [101,110,100]=true:=wJ rfl rfl
theorem d9c:decide (Q0 .i64 (Int.ofNat 0-Int.ofNat 1)<Int.ofNat 0)=true:=wJ rfl rfl
theorem RI.fail {G d0 d l i bs bl T}(H:RI G d0 d l i bs bl T){c' p e z h' r w}(hc:d.c<=c')(hs:∀j,j<d.c->j≠G.ap->h'.get j=d.h.get j)(hp:h'.get G.ap=some (.cells (F8 G.sv G.fo ⟨d.oa,d.lb,p,e⟩) 0 false)):a3H G d0 z (.er p e) (.bool false) ⟨c',h',r,w⟩:=by obtain⟨D,S⟩:=H.dp.rd hc hs hp;exact H.er (X:=[]) ⟨rfl,rfl,D,S⟩ rfl rfl (wH _).symm rfl
section
variable {G:PG}{d0 d:PD}{n K:Nat}{lv:Sl}{l:List Nd}{i:Nat}{bs:List Bk}{bl:Sl}{T:List AI}{x:Nd}{xs:List Value}
theorem d2z (H:RI G d0 d l i bs bl T)(hn:NdL (Frz G d0) d0.h lv l)(hz:zs l<=n)(hs:Sml d0 (zs l))(hi:l[i]?=some x)(hk0:x.k≠0)(hk2:x.k≠2)(h1:C9 xs 148=.int .i64 (.ofNat i))(h2:C9 xs 143=.slice bl.a bl.n bl.e)(h3:C9 xs 111=.bool false)(m)(r w):l9 (go (a5C o9 NN (o8 D8 (m+K+12)) (.slice lv.a lv.n lv.e) (.pointer (some ⟨G.ap,0,some 0⟩)) xs) ⟨d.c,d.h,r,w⟩) (a8U G d0 d n l i bs bl T):=by have hN:=hn.mono H.st.fz;have hp:=H.dp.hp;have a1:=H.dp.p;have a2:G.ap≠d.c:=zy;have hlen:=hn.len.1;obtain⟨la,ln,le⟩:=lv;simp only at hlen;subst hlen;have hll:=hn.len.2;have hlt:i<l.length:=(wM.1 hi).1;have hinc:=J6 i zy;obtain⟨b,p,g,cs,cur,ro,nl,hb,hg,hNn,hT,e1,e2,e3,e4,e5,e6⟩:=hN.get hi;have hb1:=hb.1;have hb2:b≠d.c:=zy;simp only at e1;have e0:decide (Int.ofNat i<Int.ofNat l.length)=true:=wL (uk.2 hlt);have q0:decide (x.k=0)=false:=wP hk0;have q2:decide (x.k=2)=false:=wP hk2;simp(disch:=try exact dz)only[b1c,G76,h1,h2,h3,e1,e2,hg,e0,hp,F8,di,q0,q2,V3,G72,↓gP,gY,gT];refine l9.done ?_;refine Or.inr ⟨_,.er x.p 4,rfl,λk=>by show(match l[i]? with|none=>_|some n=>_)=_;rw[hi];simp only[q0,q2,y9],H.fail zy (λj k1 k2=>?_) ?_⟩;have k3:j≠d.c:=zy;simp(disch:=first|assumption|omega)only[d9];exact o7 _ _ _
theorem b9g (H:RI G d0 d l i bs bl T)(hn:NdL (Frz G d0) d0.h lv l)(hz:zs l<=n)(hs:Sml d0 (zs l))(hi:l[i]?=some x)(hk:x.k=2)(ht:x.t=[101,108,115,101])(hb0:bs=[])(h1:C9 xs 148=.int .i64 (.ofNat i))(h2:C9 xs 143=.slice bl.a bl.n bl.e)(h3:C9 xs 111=.bool false)(m)(r w):l9 (go (a5C o9 NN (o8 D8 (m+K+12)) (.slice lv.a lv.n lv.e) (.pointer (some ⟨G.ap,0,some 0⟩)) xs) ⟨d.c,d.h,r,w⟩) (a8U G d0 d n l i bs bl T):=by have hN:=hn.mono H.st.fz;have hp:=H.dp.hp;have a1:=H.dp.p;have a2:G.ap≠d.c:=zy;have hlen:=hn.len.1;obtain⟨la,ln,le⟩:=lv;simp only at hlen;subst hlen;have hll:=hn.len.2;have hlt:i<l.length:=(wM.1 hi).1;have hinc:=J6 i zy;obtain⟨b,p,g,cs,cur,ro,nl,hb,hg,hNn,hT,e1,e2,e3,e4,e5,e6⟩:=hN.get hi;have hb1:=hb.1;have hb2:b≠d.c:=zy;simp only at e1;have e0:decide (Int.ofNat i<Int.ofNat l.length)=true:=wL (uk.2 hlt);subst hb0;have hbl:bl=⟨none,0,0⟩\/bl.n=0:=Or.inr H.bln;have hbn:bl.n=0:=H.bln;simp(disch:=try exact dz)only[b1c,G76,h1,h2,h3,e1,e2,hg,e0,hp,F8,di,hk,ht,hbn,V3,G72,b0P,d9c,↓gP,gY,gT,Nat.reduceEqDiff];refine l9.done ?_;refine Or.inr ⟨_,.er x.p 16,rfl,λk=>by show(match l[i]? with|none=>_|some n=>_)=_;rw[hi];simp only[hk,ht,y9,A9,Nat.reduceEqDiff,tV,uE,a3X,isEn,b0P,b5N,uY],H.fail zy (λj k1 k2=>?_) ?_⟩;have k3:j≠d.c:=zy;simp(disch:=first|assumption|omega)only[d9];exact o7 _ _ _
theorem c1u (H:RI G d0 d l i bs bl T)(hn:NdL (Frz G d0) d0.h lv l)(hz:zs l<=n)(hs:Sml d0 (zs l))(hi:l[i]?=some x)(hk:x.k=2)(ht:x.t=[101,110,100])(hb0:bs=[])(h1:C9 xs 148=.int .i64 (.ofNat i))(h2:C9 xs 143=.slice bl.a bl.n bl.e)(h3:C9 xs 111=.bool false)(m)(r w):l9 (go (a5C o9 NN (o8 D8 (m+K+12)) (.slice lv.a lv.n lv.e) (.pointer (some ⟨G.ap,0,some 0⟩)) xs) ⟨d.c,d.h,r,w⟩) (a8U G d0 d n l i bs bl T):=by have hN:=hn.mono H.st.fz;have hp:=H.dp.hp;have a1:=H.dp.p;have a2:G.ap≠d.c:=zy;have hlen:=hn.len.1;obtain⟨la,ln,le⟩:=lv;simp only at hlen;subst hlen;have hll:=hn.len.2;have hlt:i<l.length:=(wM.1 hi).1;have hinc:=J6 i zy;obtain⟨b,p,g,cs,cur,ro,nl,hb,hg,hNn,hT,e1,e2,e3,e4,e5,e6⟩:=hN.get hi;have hb1:=hb.1;have hb2:b≠d.c:=zy;simp only at e1;have e0:decide (Int.ofNat i<Int.ofNat l.length)=true:=wL (uk.2 hlt);subst hb0;have hbl:bl=⟨none,0,0⟩\/bl.n=0:=Or.inr H.bln;have hbn:bl.n=0:=H.bln;simp(disch:=try exact dz)only[b1c,G76,h1,h2,h3,e1,e2,hg,e0,hp,F8,di,hk,ht,hbn,V3,G72,c0e,b9E,d9c,↓gP,gY,gT,Nat.reduceEqDiff];refine l9.done ?_;refine Or.inr ⟨_,.er x.p 16,rfl,λk=>by show(match l[i]? with|none=>_|some n=>_)=_;rw[hi];simp only[hk,ht,y9,A9,Nat.reduceEqDiff,tV,uE,a3X,isEn,c0e,b9E,nz],H.fail zy (λj k1 k2=>?_) ?_⟩;have k3:j≠d.c:=zy;simp(disch:=first|assumption|omega)only[d9];exact o7 _ _ _
end
end Go.Proofs.YtmomonnlmbljoaaGreatDoor
end
section
namespace Go.Proofs.YtmomonnlmbljoaaGreatDoor
open Go.V Go.RowKit Go.Shelf Go.Proofs
variable {mL:Int}
attribute [local congr] y7 x9 A8 A7 D5 z8 E5 G8 G7
theorem c4E {g v}:∀(cs) (o n) (rows),y8 g cs n=some rows->o<n->∃cs',a2b g [v] cs o=some cs'/\x8 cs'=x8 cs/\y8 g cs' n=some (rows.set o v):=by
 intro cs;induction cs with
  |nil=>intro o n rows h hn;cases n with|zero=>omega|succ n=>cases h
  |cons c cs ih=>intro o n rows h hn;obtain⟨y,st⟩:=c;cases n with|zero=>omega|succ n=>have h':(match Nat.ble st g with|true=>(match y8 g cs n with|some vs=>some (y::vs)|none=>none)|false=>none)=some rows:=h;cases q1:Nat.ble st g with|false=>rw[q1]at h';cases h'|true=>rw[q1]at h';cases q2:y8 g cs n with|none=>rw[q2]at h';cases h'|some vs=>rw[q2]at h';cases h';cases o with|zero=>refine⟨(v,g)::cs,rfl,rfl,?_⟩;show(match Nat.ble g g with|true=>(match y8 g cs n with|some vs=>some (v::vs)|none=>none)|false=>none)=_;rw[a3K,q2];rfl|succ o=>obtain⟨cs',e1,e2,e3⟩:=ih o n vs q2 zy;refine⟨(y,st)::cs',?_,?_,?_⟩;show(match a2b g [v] cs o with|some cs'=>some ((y,st)::cs')|none=>none)=_;rw[e1];rw[X8,X8,e2];show(match Nat.ble st g with|true=>(match y8 g cs' n with|some vs=>some (y::vs)|none=>none)|false=>none)=_;rw[q1,e3];rfl
theorem b2P {g cs b0 bs}(h:y8 g cs ((b0::bs).reverse.flatMap a0j).length=some ((b0::bs).reverse.flatMap a0j)):y8 g (H9 cs (bs.length*3)) 1=some [.int .i64 (.ofNat b0.p)]/\y8 g (H9 cs (bs.length*3+1)) 1=some [.int .i64 (.ofNat b0.op)]/\y8 g (H9 cs (bs.length*3+2)) 1=some [.bool b0.el]:=by
 have e:((b0::bs).reverse.flatMap a0j)=bs.reverse.flatMap a0j++a0j b0:=xx;have hl:(bs.reverse.flatMap a0j).length=bs.length*3:=by rw[a3a,uW]
 have one:∀(j:Nat) (y:Value),(a0j b0)[j]?=some y->y8 g (H9 cs (bs.length*3+j)) 1=some [y]:=by intro j y hy;refine a2I h _ y ?_;rw[e,vG zy,hl,uK];exact hy
 exact⟨one 0 _ rfl,one 1 _ rfl,one 2 _ rfl⟩
theorem b4i {g cs b0 bs}(h:y8 g cs ((b0::bs).reverse.flatMap a0j).length=some ((b0::bs).reverse.flatMap a0j)):∃cs',a2b g [.bool true] cs (bs.length*3+2)=some cs'/\x8 cs'=x8 cs/\y8 g cs' ((⟨b0.p,b0.op,true⟩::bs).reverse.flatMap a0j).length=some ((⟨b0.p,b0.op,true⟩::bs).reverse.flatMap a0j):=by
 have e:∀b0:Bk,((b0::bs).reverse.flatMap a0j)=bs.reverse.flatMap a0j++a0j b0:=λb0=>xx;have hl:(bs.reverse.flatMap a0j).length=bs.length*3:=by rw[a3a,uW]
 have hl2:∀b0:Bk,((b0::bs).reverse.flatMap a0j).length=bs.length*3+3:=λb0=>yf;obtain⟨cs',h1,h2,h3⟩:=c4E (v:=.bool true) cs (bs.length*3+2) _ _ h (by rw[hl2];omega);refine⟨cs',h1,h2,?_⟩;rw[hl2]at h3⊢;rw[h3,e,e,List.set_append_right _ _ zy,hl,uK];rfl
theorem RI.put {G d0 d l i bs bs2 bl T}(H:RI G d0 d l i bs bl T){ab g cs}(hb:bl=⟨some ⟨ab,0,some g⟩,bs.length,3⟩){c' h'}(hc:d.c<=c')(hs:∀j,j<d.c->j≠ab->h'.get j=d.h.get j)(hab:h'.get ab=some (.cells cs g false))(e2:bs2.length=bs.length)(e3:(bs2.reverse.flatMap a0j).length<=x8 cs)(e4:y8 g cs (bs2.reverse.flatMap a0j).length=some (bs2.reverse.flatMap a0j)):RI G d0 {d with c:=c',h:=h'} l i bs2 bl T:=by have hown:bl.own ab:=⟨_,by rw[hb],rfl⟩;obtain⟨o1,o2,o3⟩:=H.own ab hown;refine⟨H.dp.wr (O:=λj=>j=ab) (λj h=>by subst h;exact⟨o2,o3⟩) hc hs,H.st.wr hc λj k=>hs j (wD k H.st.le) zy,⟨?_,Or.inr ⟨ab,g,cs,by rw[hb],by rw[hb],wD o2.1 hc,hab,e3,e4⟩⟩,λj k=>⟨(H.own j k).1,⟨wD (H.own j k).2.1.1 hc,(H.own j k).2.1.2⟩,(H.own j k).2.2⟩,H.S,?_,?_,H.p,H.e,H.z1,?_⟩;rw[a3a,uW,e2,hb];rw[e2];exact H.L;rw[e2];exact H.lb;rw[e2];exact H.z2
section
variable {G:PG}{d0 d:PD}{n K:Nat}{lv:Sl}{l:List Nd}{i:Nat}{bs:List Bk}{bl:Sl}{T:List AI}{x:Nd}{xs:List Value}{b0:Bk}
theorem d5W (H:RI G d0 d l i (b0::bs) bl T)(hn:NdL (Frz G d0) d0.h lv l)(hz:zs l<=n)(hs:Sml d0 (zs l))(hi:l[i]?=some x)(hk:x.k=2)(ht:x.t=[101,108,115,101])(h4:b0.op≠4)(h1:C9 xs 148=.int .i64 (.ofNat i))(h2:C9 xs 143=.slice bl.a bl.n bl.e)(h3:C9 xs 111=.bool false)(m)(r w):l9 (go (a5C o9 NN (o8 D8 (m+K+12)) (.slice lv.a lv.n lv.e) (.pointer (some ⟨G.ap,0,some 0⟩)) xs) ⟨d.c,d.h,r,w⟩) (a8U G d0 d n l i (b0::bs) bl T):=by have hN:=hn.mono H.st.fz;have hp:=H.dp.hp;have a1:=H.dp.p;have a2:G.ap≠d.c:=zy;have hlen:=hn.len.1;obtain⟨la,ln,le⟩:=lv;simp only at hlen;subst hlen;have hll:=hn.len.2;have hlt:i<l.length:=(wM.1 hi).1;have hinc:=J6 i zy;obtain⟨b,p,g,cs,cur,ro,nl,hb,hg,hNn,hT,e1,e2,e3,e4,e5,e6⟩:=hN.get hi;have hb1:=hb.1;have hb2:b≠d.c:=zy;simp only at e1;have e0:decide (Int.ofNat i<Int.ofNat l.length)=true:=wL (uk.2 hlt);obtain⟨hl1,hor⟩:=H.gb;have hbn:bl.n=bs.length+1:=H.bln;obtain⟨ab,g2,cs2,q2,q3,q4,q5,q6,q7⟩:∃ab g cs,bl.a=some ⟨ab,0,some g⟩/\bl.e=3/\ab<d.c/\d.h.get ab=some (.cells cs g false)/\((b0::bs).reverse.flatMap a0j).length<=x8 cs/\y8 g cs ((b0::bs).reverse.flatMap a0j).length=some ((b0::bs).reverse.flatMap a0j):=yg;obtain⟨ba,bn',be⟩:=bl;simp only at hbn q2 q3;subst hbn;subst q2;subst q3;obtain⟨t1,t2,t3⟩:=b2P q7;obtain⟨cs3,p1,p2,p3⟩:=b4i q7;have hbs:bs.length<900000:=yX;have hdec:=a2H bs.length zy;have nneg:decide (Int.ofNat bs.length<Int.ofNat 0)=false:=wP (λh=>zN);have eI:∀k,a7i 3 (.slice (some ⟨ab,0,some g2⟩) (bs.length+1) 3) (.int k (.ofNat bs.length))=M.pure (.pointer (some ⟨ab,bs.length*3,some g2⟩)):=λk=>zD;have hfl:∀b0:Bk,((b0::bs).reverse.flatMap a0j).length=bs.length*3+3:=λb0=>yf;have p0:(Nat.beq g2 g2&& !false&&J2 O4 [.bool true]&&Nat.ble (bs.length*3+2+x8 [Value.bool true]) (x8 cs2))=true:=yV;have ha1:=(H.own ab ⟨_,rfl,rfl⟩).2.1.2.1;have ha2:ab≠d.c:=zy;have h4':decide (b0.op=4)=false:=wP h4;simp(disch:=try exact dz)only[b1c,G76,h1,h2,h3,e1,e2,hg,e0,hp,F8,di,hk,ht,V3,G72,b0P,hdec,nneg,eI,q5,t2,h4',↓gP,gY,gT,Nat.reduceEqDiff];refine l9.done ?_;refine Or.inr ⟨_,.er x.p 16,rfl,λk=>by show(match l[i]? with|none=>_|some n=>_)=_;rw[hi];simp only[hk,ht,y9,A9,Nat.reduceEqDiff,tV,uE,a3X,isEn,b0P,b5N,uY,h4',uU],H.fail zy (λj k1 k2=>?_) ?_⟩;have k3:j≠d.c:=zy;simp(disch:=first|assumption|omega)only[d9];exact o7 _ _ _
theorem d7k (H:RI G d0 d l i (b0::bs) bl T)(hn:NdL (Frz G d0) d0.h lv l)(hz:zs l<=n)(hs:Sml d0 (zs l))(hi:l[i]?=some x)(hk:x.k=2)(ht:x.t=[101,108,115,101])(h4:b0.op=4)(h5:b0.el=true)(h1:C9 xs 148=.int .i64 (.ofNat i))(h2:C9 xs 143=.slice bl.a bl.n bl.e)(h3:C9 xs 111=.bool false)(m)(r w):l9 (go (a5C o9 NN (o8 D8 (m+K+12)) (.slice lv.a lv.n lv.e) (.pointer (some ⟨G.ap,0,some 0⟩)) xs) ⟨d.c,d.h,r,w⟩) (a8U G d0 d n l i (b0::bs) bl T):=by have hN:=hn.mono H.st.fz;have hp:=H.dp.hp;have a1:=H.dp.p;have a2:G.ap≠d.c:=zy;have hlen:=hn.len.1;obtain⟨la,ln,le⟩:=lv;simp only at hlen;subst hlen;have hll:=hn.len.2;have hlt:i<l.length:=(wM.1 hi).1;have hinc:=J6 i zy;obtain⟨b,p,g,cs,cur,ro,nl,hb,hg,hNn,hT,e1,e2,e3,e4,e5,e6⟩:=hN.get hi;have hb1:=hb.1;have hb2:b≠d.c:=zy;simp only at e1;have e0:decide (Int.ofNat i<Int.ofNat l.length)=true:=wL (uk.2 hlt);obtain⟨hl1,hor⟩:=H.gb;have hbn:bl.n=bs.length+1:=H.bln;obtain⟨ab,g2,cs2,q2,q3,q4,q5,q6,q7⟩:∃ab g cs,bl.a=some ⟨ab,0,some g⟩/\bl.e=3/\ab<d.c/\d.h.get ab=some (.cells cs g false)/\((b0::bs).reverse.flatMap a0j).length<=x8 cs/\y8 g cs ((b0::bs).reverse.flatMap a0j).length=some ((b0::bs).reverse.flatMap a0j):=yg;obtain⟨ba,bn',be⟩:=bl;simp only at hbn q2 q3;subst hbn;subst q2;subst q3;obtain⟨t1,t2,t3⟩:=b2P q7;obtain⟨cs3,p1,p2,p3⟩:=b4i q7;have hbs:bs.length<900000:=yX;have hdec:=a2H bs.length zy;have nneg:decide (Int.ofNat bs.length<Int.ofNat 0)=false:=wP (λh=>zN);have eI:∀k,a7i 3 (.slice (some ⟨ab,0,some g2⟩) (bs.length+1) 3) (.int k (.ofNat bs.length))=M.pure (.pointer (some ⟨ab,bs.length*3,some g2⟩)):=λk=>zD;have hfl:∀b0:Bk,((b0::bs).reverse.flatMap a0j).length=bs.length*3+3:=λb0=>yf;have p0:(Nat.beq g2 g2&& !false&&J2 O4 [.bool true]&&Nat.ble (bs.length*3+2+x8 [Value.bool true]) (x8 cs2))=true:=yV;have ha1:=(H.own ab ⟨_,rfl,rfl⟩).2.1.2.1;have ha2:ab≠d.c:=zy;simp(disch:=try exact dz)only[b1c,G76,h1,h2,h3,e1,e2,hg,e0,hp,F8,di,hk,ht,V3,G72,b0P,hdec,nneg,eI,q5,t2,t3,h4,h5,↓gP,gY,gT,Nat.reduceEqDiff];refine l9.done ?_;refine Or.inr ⟨_,.er x.p 16,rfl,λk=>by show(match l[i]? with|none=>_|some n=>_)=_;rw[hi];simp only[hk,ht,y9,A9,Nat.reduceEqDiff,tV,uE,a3X,isEn,b0P,b5N,uY,h4,h5,a8q,a0U],H.fail zy (λj k1 k2=>?_) ?_⟩;have k3:j≠d.c:=zy;simp(disch:=first|assumption|omega)only[d9];exact o7 _ _ _
end
end Go.Proofs.YtmomonnlmbljoaaGreatDoor
end
