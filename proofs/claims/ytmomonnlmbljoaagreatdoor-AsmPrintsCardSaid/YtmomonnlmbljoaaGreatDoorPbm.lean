import Derived.Test.YtmomonnlmbljoaaGreatDoorPbl
section
namespace Go.Proofs.YtmomonnlmbljoaaGreatDoor
open Go.V Go.RowKit Go.Shelf Go.Proofs
set_option maxRecDepth 1000000
set_option maxHeartbeats 4000000
set_option linter.unusedVariables false
attribute [local congr] U8 U7 Y8 Z0 a0i a0h a1V
variable {mL:Int}
abbrev IR:Type:=Ins×Value×Value
def a5P (x:IR):List Value:=[.int .i64 x.1.op,.int .i64 x.1.A,.int .i64 x.1.B,.int .u64 (.ofNat x.1.N),.int .i64 x.1.k,.int .i64 x.1.v,.int .i64 x.1.i,x.2.1,x.2.2]
structure InsL (c:Nat) (h:Trie VObj) (v:Value) (Xs:List IR):Prop where
 sl:∃ a e,v=.slice a Xs.length e∧(Xs=[]∨∃ b o g cs cur ro,a=some ⟨b,o,some g⟩∧e=9∧b<c∧h.get b=some (.cells cs cur ro)∧∀ i x,Xs[i]?=some x→Y0 g (a2I cs (o+i * 9)) 9=some (a5P x))
 each:∀ x∈Xs,Q6 c h x.2.1 (P6 x.1.types)∧Q6 c h x.2.2 (P6 x.1.labels)
theorem InsL.len {c:Nat} {h:Trie VObj} {v:Value} {Xs:List IR} (H:InsL c h v Xs):a3U v=M.pure (.int .i64 (.ofNat Xs.length)):=by
 obtain ⟨a,e,rfl,_⟩:=H.sl
 exact a5G _ _ _
theorem InsL.mono {c c':Nat} {h h':Trie VObj} {v:Value} {Xs:List IR} (H:InsL c h v Xs) (hc:c≤c') (hh:∀ b,b<c→h'.get b=h.get b):InsL c' h' v Xs:=by
 obtain ⟨⟨a,e,rfl,hor⟩,each⟩:=H
 refine ⟨⟨a,e,rfl, ?_⟩,fun x hx=>⟨(each x hx).1.mono hc hh,(each x hx).2.mono hc hh⟩⟩
 rcases hor with h0 | ⟨b,o,g,cs,cur,ro,h1,h2,h3,h4,h5⟩
 · exact Or.inl h0
 · exact Or.inr ⟨b,o,g,cs,cur,ro,h1,h2,by omega,by rw [hh b h3]; exact h4,h5⟩
theorem b6d {γ:Type} {c b o g n:Nat} {h:Trie VObj} {cs:List (Value×Nat)} {cur:Nat} {ro:Bool} {vs:List Value} (hb:b<c) (h1:h.get b=some (.cells cs cur ro)) (h2:Y0 g (a2I cs o) n=some vs) (k:List Value→Option γ) :
 ldS (Nat.blt b c) (h.get b) o g n k=k vs:=by
 rw [H9 hb,h1,K8,h2]
 rfl
theorem InsL.read {c c':Nat} {h h':Trie VObj} {v:Value} {Xs:List IR} (H:InsL c h v Xs) (hc:c≤c') (hh:∀ b,b<c→h'.get b=h.get b) {i:Nat} {x:IR} (hx:Xs[i]?=some x) :
 ∃ b p p0 p7 p8,b<c∧a4X 9 v (.int .i64 (.ofNat i))=M.pure p∧X6 0 p=M.pure p0∧X6 7 p=M.pure p7∧X6 8 p=M.pure p8 ∧
   (∀ r w,go (a2U 9 p) ⟨c',h',r,w⟩=some (I7 x.1 x.2.1 x.2.2,⟨c',h',b::r,w⟩))∧(∀ r w,go (K7 p0) ⟨c',h',r,w⟩=some (.int .i64 x.1.op,⟨c',h',b::r,w⟩)) ∧
   (∀ r w,go (K7 p7) ⟨c',h',r,w⟩=some (x.2.1,⟨c',h',b::r,w⟩))∧(∀ r w,go (K7 p8) ⟨c',h',r,w⟩=some (x.2.2,⟨c',h',b::r,w⟩)):=by
 obtain ⟨⟨a,e,rfl,hor⟩,each⟩:=H
 have hi:i<Xs.length:=(List.getElem?_eq_some_iff.1 hx).1
 rcases hor with rfl | ⟨b,o,g,cs,cur,ro,rfl,rfl,h1,h2,h3⟩
 · cases hx
 · have ht:=h3 i x hx
   have hg:=hh b h1
   have hb:b<c':=by omega
   have one:∀ (j:Nat) (y:Value),(a5P x)[j]?=some y→Y0 g (a2I cs (o+i * 9+j)) 1=some [y]:=by
    intro j y hy
    rw [b5o]
    exact c0W ht j y hy
   refine ⟨b,.pointer (some ⟨b,o+i * 9,some g⟩),.pointer (some ⟨b,o+i * 9+0,some g⟩),.pointer (some ⟨b,o+i * 9+7,some g⟩),.pointer (some ⟨b,o+i * 9+8,some g⟩),h1,a6S 9 i Xs.length .i64 b o (some g) hi (by decide),Q7 _ _ _ _,Q7 _ _ _ _,Q7 _ _ _ _,fun r w=>?_,fun r w=>?_,fun r w=>?_,fun r w=>?_⟩
   · rw [Q8,b6d hb (hg.trans h2) ht]; rfl
   · rw [M8,b6d hb (hg.trans h2) (one 0 _ rfl)]; rfl
   · rw [M8,b6d hb (hg.trans h2) (one 7 _ rfl)]; rfl
   · rw [M8,b6d hb (hg.trans h2) (one 8 _ rfl)]; rfl
def b4N (x:IR):Bool:=!(Nat.blt 20 x.1.labels.length) && !(Nat.blt 20 x.1.types.length)
noncomputable def a9N (Xs:List IR):Bool:=a0o b4N Xs
theorem c4t (x:IR) (t:List IR):a9N (x::t)=(b4N x && a9N t):=l9 _ _ _
theorem c6i (N:Nat) (call:o8) (c:Nat) (h:Trie VObj) (v:Value) (Xs:List IR) (H:InsL c h v Xs) (hl:Xs.length<4294967296) :
 ∀ (t:List IR) (i k:Nat) (g0 g1 g2 g3 g4 g5 g6 g7 g8 g9 g10 g11 g12 g13 g14 g15 g16 g17 g18 g19 g21 g22:Value) (r w:List Nat),Xs.drop i=t→t.length<k →
 H6 (go (a2S (a8G H8 N call v) k [g0,g1,g2,g3,g4,g5,g6,g7,g8,g9,g10,g11,g12,g13,g14,g15,g16,g17,g18,g19,.bool false,g21,g22,.int .i64 (.ofNat i)]) ⟨c,h,r,w⟩)
  fun x s=>s.c=c∧s.h=h∧((a9N t=true∧x.1=.exit 0)∨(a9N t=false∧x.1=.ret∧j4 x.2 20=.bool false)):=by
 intro t
 have hlen:=H.len
 induction t with
 | nil=>
   intro i k g0 g1 g2 g3 g4 g5 g6 g7 g8 g9 g10 g11 g12 g13 g14 g15 g16 g17 g18 g19 g21 g22 r w hd hk
   obtain ⟨k,rfl⟩:∃ m,k=m+1:=⟨k - 1,by simp at hk; omega⟩
   have hi:Nat.blt i Xs.length=false:=by
    have:Xs.length≤i:=by simpa [List.drop_eq_nil_iff] using hd
    cases q:Nat.blt i Xs.length with
    | false=>rfl
    | true=>have:i<Xs.length:=by simpa [Nat.blt_eq] using q
            omega
   simp (config:={ maxSteps:=10000000 }) (disch:=first | assumption | omega | (simp only [l9,w9,F3,j6,A8,E8,D8,I5,G9,I9,I8,H7,o9,D5,G8,Nat.reduceAdd,D7,E9,Nat.reduceBEq,G5,F9,d9,j5,l6,z8,D9,F7,F5,F4,G6,C8,q9,A9,q8,l8,l7,E5,C9,G7,IntKind.bits,D6,r9,o7] <;> omega) | assumption) only [a1d,a9x,a9A,a9C,a9E,a9H,a8G,hlen,a2t,hi,bn,U0,V5,I4,K3,J2,X4,Y3,M6,a2N,V.e1g,a0t,a0G]
   exact H6.done ⟨rfl,rfl,Or.inl ⟨rfl,rfl⟩⟩
 | cons x t ih=>
   intro i k g0 g1 g2 g3 g4 g5 g6 g7 g8 g9 g10 g11 g12 g13 g14 g15 g16 g17 g18 g19 g21 g22 r w hd hk
   obtain ⟨k,rfl⟩:∃ m,k=m+1:=⟨k - 1,by simp at hk; omega⟩
   have hil:i<Xs.length:=by
    have:=congrArg List.length hd; simp at this; omega
   have hi:Nat.blt i Xs.length=true:=H9 hil
   have hq:Xs[i]?=some x:=by
    have:=congrArg (fun t=>t[0]?) hd; simpa using this
   have hd':Xs.drop (i+1)=t:=by
    have:=congrArg List.tail hd; simpa using this
   have hinc:=a4G i (by omega)
   obtain ⟨b,p,p0,p7,p8,_,e1,e2,e3,e4,e5,e6,e7,e8⟩:=H.read (Nat.le_refl c) (fun _ _=>rfl) hq
   obtain ⟨Ht,Hl⟩:=H.each x (List.mem_of_getElem? hq)
   have ht:=Ht.len
   have hll:=Hl.len
   rw [List.length_map] at ht hll
   have e:a9N (x::t)=(b4N x && a9N t):=c4t x t
   have eb:b4N x=(!(Nat.blt 20 x.1.labels.length) && !(Nat.blt 20 x.1.types.length)):=rfl
   cases q1:Nat.blt 20 x.1.labels.length with
   | true=>
     rw [q1] at eb
     simp (config:={ maxSteps:=10000000 }) (disch:=first | assumption | omega | (simp only [l9,w9,F3,j6,A8,E8,D8,I5,G9,I9,I8,H7,o9,D5,G8,Nat.reduceAdd,D7,E9,Nat.reduceBEq,G5,F9,d9,j5,l6,z8,D9,F7,F5,F4,G6,C8,q9,A9,q8,l8,l7,E5,C9,G7,IntKind.bits,D6,r9,o7] <;> omega) | assumption) only [a1d,a9x,a9A,a9C,a9E,a9H,a8G,hlen,a2t,hi,e1,e4,e8,hll,q1,hinc,bn,U0,V5,J6,I4,K3,a1X,J3,a5y,X4,Y3,a6j,M6,K6,a5Y,V.e1g,a0t,a3s,a0G]
     exact H6.done ⟨rfl,rfl,Or.inr ⟨by rw [e,eb]; rfl,rfl,rfl⟩⟩
   | false=>
     cases q2:Nat.blt 20 x.1.types.length with
     | true=>
       rw [q1,q2] at eb
       simp (config:={ maxSteps:=10000000 }) (disch:=first | assumption | omega | (simp only [l9,w9,F3,j6,A8,E8,D8,I5,G9,I9,I8,H7,o9,D5,G8,Nat.reduceAdd,D7,E9,Nat.reduceBEq,G5,F9,d9,j5,l6,z8,D9,F7,F5,F4,G6,C8,q9,A9,q8,l8,l7,E5,C9,G7,IntKind.bits,D6,r9,o7] <;> omega) | assumption) only [a1d,a9x,a9A,a9C,a9E,a9H,a8G,hlen,a2t,hi,e1,e3,e4,e7,e8,ht,hll,q1,q2,hinc,bn,U0,V5,J6,I4,K3,a1X,J3,J2,a5y,X4,Y3,a4h,M6,K6,a5Y,V.e1g,a0t,a3s,a0G]
       exact H6.done ⟨rfl,rfl,Or.inr ⟨by rw [e,eb]; rfl,rfl,rfl⟩⟩
     | false=>
       rw [q1,q2] at eb
       simp (config:={ maxSteps:=10000000 }) (disch:=first | assumption | omega | (simp only [l9,w9,F3,j6,A8,E8,D8,I5,G9,I9,I8,H7,o9,D5,G8,Nat.reduceAdd,D7,E9,Nat.reduceBEq,G5,F9,d9,j5,l6,z8,D9,F7,F5,F4,G6,C8,q9,A9,q8,l8,l7,E5,C9,G7,IntKind.bits,D6,r9,o7] <;> omega) | assumption) only [a1d,a9x,a9A,a9C,a9E,a9H,a8G,hlen,a2t,hi,e1,e3,e4,e7,e8,ht,hll,q1,q2,hinc,bn,U0,V5,J6,I4,K3,a1X,J3,J2,a5y,X4,Y3,a4h,M6,K6,V.e1g,a0t,a3s,a0G]
       have e':a9N (x::t)=a9N t:=by rw [e,eb]; rfl
       rw [e']
       exact ih (i+1) k _ _ _ _ _ _ _ _ _ _ _ _ _ _ _ _ _ _ _ _ _ _ _ _ hd' (by simp at hk; omega)
noncomputable def b0E (Xs:List IR):Bool:=!(Nat.blt 60 Xs.length) && a9N Xs
theorem t10 (N:Nat) (hN:100<N) (call:o8) (c:Nat) (h:Trie VObj) (v:Value) (Xs:List IR) (H:InsL c h v Xs) (r w:List Nat) :
 H6 (go (a9b H8 N call v) ⟨c,h,r,w⟩) fun x s=>x=.ret (.bool (b0E Xs))∧s.c=c∧s.h=h:=by
 have hlen:=H.len
 have e:b0E Xs=(!(Nat.blt 60 Xs.length) && a9N Xs):=rfl
 cases q:Nat.blt 60 Xs.length with
 | true=>
   simp (config:={ maxSteps:=10000000 }) (disch:=first | assumption | omega | (simp only [l9,w9,F3,j6,A8,E8,D8,I5,G9,I9,I8,H7,o9,D5,G8,Nat.reduceAdd,D7,E9,Nat.reduceBEq,G5,F9,d9,j5,l6,z8,D9,F7,F5,F4,G6,C8,q9,A9,q8,l8,l7,E5,C9,G7,IntKind.bits,D6,r9,o7] <;> omega) | assumption) only [a9b,b2k,hlen,a2t,q,bn,U0,V5,a1P,K3,J3,M6,V.e1g,a3s]
   exact H6.done ⟨by rw [e,q]; rfl,rfl,rfl⟩
 | false=>
   have hl:Xs.length≤60:=by
    rcases Nat.lt_or_ge 60 Xs.length with p | p
    · rw [H9 p] at q; cases q
    · exact p
   simp (config:={ maxSteps:=10000000 }) (disch:=first | assumption | omega | (simp only [l9,w9,F3,j6,A8,E8,D8,I5,G9,I9,I8,H7,o9,D5,G8,Nat.reduceAdd,D7,E9,Nat.reduceBEq,G5,F9,d9,j5,l6,z8,D9,F7,F5,F4,G6,C8,q9,A9,q8,l8,l7,E5,C9,G7,IntKind.bits,D6,r9,o7] <;> omega) | assumption) only [a9b,b2k,hlen,a2t,q,bn,U0,V5,a1P,J6,J2,M6,V.e1g,a3s]
   refine H6.bindS (c6i N call c h v Xs H (by omega) Xs 0 N _ _ _ _ _ _ _ _ _ _ _ _ _ _ _ _ _ _ _ _ _ _ r w rfl (by omega)) fun x s hq=>?_
   obtain ⟨x1,x2⟩:=x
   obtain ⟨c',h',r',w'⟩:=s
   obtain ⟨rfl,rfl,⟨e1,rfl⟩ | ⟨e1,rfl,e2⟩⟩:=hq
   · simp (config:={ maxSteps:=10000000 }) (disch:=first | assumption | omega | (simp only [l9,w9,F3,j6,A8,E8,D8,I5,G9,I9,I8,H7,o9,D5,G8,Nat.reduceAdd,D7,E9,Nat.reduceBEq,G5,F9,d9,j5,l6,z8,D9,F7,F5,F4,G6,C8,q9,A9,q8,l8,l7,E5,C9,G7,IntKind.bits,D6,r9,o7] <;> omega) | assumption) only [K3,b0d,a2W,a2N]
     exact H6.done ⟨by rw [e,q,e1]; rfl,rfl,rfl⟩
   · simp only at e2
     simp (config:={ maxSteps:=10000000 }) (disch:=first | assumption | omega | (simp only [l9,w9,F3,j6,A8,E8,D8,I5,G9,I9,I8,H7,o9,D5,G8,Nat.reduceAdd,D7,E9,Nat.reduceBEq,G5,F9,d9,j5,l6,z8,D9,F7,F5,F4,G6,C8,q9,A9,q8,l8,l7,E5,C9,G7,IntKind.bits,D6,r9,o7] <;> omega) | assumption) only [K3,a5Y,e2]
     exact H6.done ⟨by rw [e,q,e1]; rfl,rfl,rfl⟩
theorem a3W {b:Bool} {x y:List UInt8} {n:Nat} (h1:b=true→L9 x≤n) (h2:b=false→L9 y≤n):L9 (bcase b x y)≤n:=by
 cases b with
 | true=>exact h1 rfl
 | false=>exact h2 rfl
theorem c4l (n:Nat):L9 ([]:List UInt8)≤n:=Nat.zero_le _
theorem c0F {X:Ins} (h:a1G X=true):a2q X.op=true∧PlainF (a0n X.op) X:=by
 unfold a1G at h
 cases hk:a2q X.op with
 | true=>rw [hk] at h; exact ⟨rfl,b9b h⟩
 | false=>rw [hk] at h; cases h
theorem c8m {K:Nat} {X:Ins} (h:Nat.beq K 17=true) (hr:a2B K X=true):X.A≤63:=by
 obtain rfl:=Nat.eq_of_beq_eq_true h
 have h':decide (X.A≤63)=true:=hr
 simpa using h'
theorem d0W {K:Nat} {X:Ins} (h:Nat.beq K 1=true) (hr:a2B K X=true):a4H X.k X.v X.i=true:=by
 obtain rfl:=Nat.eq_of_beq_eq_true h
 exact hr
theorem d1M {K:Nat} {X:Ins} (h:Nat.beq K 3=true) (hr:a2B K X=true):idxAll X.labels=true:=by
 obtain rfl:=Nat.eq_of_beq_eq_true h
 exact hr
theorem d1s {K:Nat} (h:Nat.beq K 18=true):K.beq 19=false:=by
 obtain rfl:=Nat.eq_of_beq_eq_true h
 rfl
theorem c5i (X:Ins) (hp:a1G X=true) (hN:X.N<18446744073709551616) (hl:X.labels.length<1000):L9 (R6 X)≤30000:=by
 obtain ⟨_,F⟩:=c0F hp
 obtain ⟨a,hA,ha⟩:=O9 F.A
 obtain ⟨b,hB,hb⟩:=O9 F.B
 have e1:X.A.toNat=a:=by rw [hA]; rfl
 have e2:X.B.toNat=b:=by rw [hB]; rfl
 have n1:=X9 X.op
 have sa:=a2z a (by omega)
 have la:=a5D a (by omega)
 have lb:=a5D b (by omega)
 have bo:=b1t a b (by omega) (by omega)
 have of':=b8Q X.N hN
 have vn:=a6n (X.types.headD 0)
 have hs:L9 (a2n (a0n X.op) X)≤29000:=by
  unfold a2n
  rw [e1,e2]
  refine a3W (fun q=>a3W (fun _=>c4l _) fun _=>?_) fun q1=>?_
  · obtain ⟨i1,i2⟩:=b9j (d0W q F.rest)
    have:=b2Q X.k X.v X.i i1 i2
    rw [o9]; omega
  refine a3W (fun _=>by omega) fun _=>?_
  refine a3W (fun q=>?_) fun q3=>?_
  · have:=b0C (X.labels.map Int.toNat) (a8S (d1M q F.rest)).2
    rw [List.length_map] at this
    rw [D6]; omega
  refine a3W (fun _=>?_) fun _=>?_
  · simp only [D6,o9,D5]; omega
  refine a3W (fun _=>?_) fun _=>?_
  · simp only [D6,o9,D5]; omega
  refine a3W (fun _=>by omega) fun _=>?_
  refine a3W (fun _=>by omega) fun _=>?_
  refine a3W (fun _=>by rw [D6]; omega) fun _=>?_
  refine a3W (fun _=>by omega) fun _=>?_
  refine a3W (fun q=>?_) fun _=>?_
  · have h63:=c8m q F.rest
    rw [hA] at h63
    have:=b8E a ((a4a a4i X.op).getD 0) (by simp only [Int.ofNat_eq_natCast] at h63; omega)
    rw [D6,D6]; omega
  refine a3W (fun q=>?_) fun _=>?_
  · have h32:=F.N (d1s q)
    have:=a6g (sgn 32 X.N) (b1e _ h32) (by have:=b0H _ h32; omega)
    rw [o9]; omega
  refine a3W (fun q=>?_) fun _=>?_
  · have:=a6g (sgn 64 X.N) (by unfold sgn; split <;> omega) (by unfold sgn; split <;> omega)
    rw [o9]; omega
  exact a3W (fun _=>a3W (fun _=>by decide) fun _=>by decide) fun _=>c4l _
 unfold R6
 rw [D6]
 omega
theorem c4a:a0o (fun r:a4V=>Nat.blt 0 (L9 r.2.1)) a0j=true:=by kernel_rfl
theorem c7V {X:Ins} (hp:a1G X=true):beqBytes (R6 X) []=false:=by
 obtain ⟨hk,_⟩:=c0F hp
 have h:0<L9 (V4 X.op):=by
  unfold a2q at hk
  unfold V4
  cases q:a0z X.op a0j with
  | none=>rw [q] at hk; cases hk
  | some r=>
    have:=(a0y _ _).1 c4a r (a6o X.op a0j r q).1
    simpa [Nat.blt_eq] using this
 unfold R6
 generalize V4 X.op=l at h
 cases l with
 | nil=>exact absurd h (by decide)
 | cons x l=>rfl
theorem b3M (ts:Array TypeId) (a b:Int):b1b Tryz.prog ts [.int .i64 a,.int .i64 b]=M.pure (.int .i64 (bcase (decide (a<b)) b a)):=by
 have e:Builtin.max_ ts 0 ⟨[Value.int .i64 a,Value.int .i64 b]⟩=pure (.int .i64 (if b > a then b else a)):=by
  simp [Builtin.max_,Builtin.max2]
 unfold b1b
 rw [e]
 cases h:decide (a<b) with
 | true=>
   have h':b > a:=by simpa using h
   rw [if_pos h']; rfl
 | false=>
   have h':¬ b > a:=by simpa using h
   rw [if_neg h']; rfl
theorem e2e (ts:Array TypeId) (n m:Nat) (h:n≤m):b1b Tryz.prog ts [.int .i64 (.ofNat n),.int .i64 (.ofNat m)]=M.pure (.int .i64 (.ofNat m)):=by
 rw [b3M]
 cases q:decide (Int.ofNat n<Int.ofNat m) with
 | true=>rfl
 | false=>
   have:¬ (Int.ofNat n<Int.ofNat m):=by simpa using q
   have:n=m:=by simp only [Int.ofNat_eq_natCast] at this; omega
   rw [this]; rfl
theorem e3f (ts:Array TypeId) (n m:Nat) (h:m≤n):b1b Tryz.prog ts [.int .i64 (.ofNat n),.int .i64 (.ofNat m)]=M.pure (.int .i64 (.ofNat n)):=by
 rw [b3M]
 cases q:decide (Int.ofNat n<Int.ofNat m) with
 | true=>
   have:Int.ofNat n<Int.ofNat m:=by simpa using q
   simp only [Int.ofNat_eq_natCast] at this; omega
 | false=>rfl
theorem d7o (ts:Array TypeId):b1b Tryz.prog ts [.int .i64 (-1),.int .i64 (.ofNat 0)]=M.pure (.int .i64 (.ofNat 0)):=by rw [b3M]; rfl
theorem d4k (ts:Array TypeId):b1b Tryz.prog ts [.int .i64 (.ofNat 0),.int .i64 (-1)]=M.pure (.int .i64 (.ofNat 0)):=by rw [b3M]; rfl
theorem d3r (ts:Array TypeId) (d:Nat) (h:d<4294967296):b1b Tryz.prog ts [.int .i64 (.ofNat 0),.int .i64 (a0H .i64 (Int.ofNat d - Int.ofNat 1))]=M.pure (.int .i64 (.ofNat (d - 1))):=by
 cases d with
 | zero=>exact d4k ts
 | succ d=>
   have e:a0H .i64 (Int.ofNat (d+1) - Int.ofNat 1)=Int.ofNat d:=by
    have:Int.ofNat (d+1) - Int.ofNat 1=Int.ofNat d:=by simp only [Int.ofNat_eq_natCast]; omega
    rw [this]
    exact a3m .i64 d (by show d<9223372036854775808; omega)
   rw [e]
   exact e2e ts 0 d (Nat.zero_le _)
theorem e0m (ts:Array TypeId) (d:Nat) (h:d<4294967296):b1b Tryz.prog ts [.int .i64 (a0H .i64 (Int.ofNat d - Int.ofNat 1)),.int .i64 (.ofNat 0)]=M.pure (.int .i64 (.ofNat (d - 1))):=by
 cases d with
 | zero=>exact d7o ts
 | succ d=>
   have e:a0H .i64 (Int.ofNat (d+1) - Int.ofNat 1)=Int.ofNat d:=by
    have:Int.ofNat (d+1) - Int.ofNat 1=Int.ofNat d:=by simp only [Int.ofNat_eq_natCast]; omega
    rw [this]
    exact a3m .i64 d (by show d<9223372036854775808; omega)
   rw [e]
   exact e3f ts d 0 (Nat.zero_le _)
theorem c5V (N:Nat) (call:o8) (c:Nat) (h:Trie VObj) (v u:Value) (L:List (List UInt8)) (H:Q6 c h v (L.map a6s)) (G:Q6 c h u (L.map a6s)) (hl:L.length<4294967296) :
 ∀ (t:List (List UInt8)) (i k:Nat) (g0 g1 g2 g3 g4 g5 g6 g7 g8 g9 g10 g11 g12 g14 g15:Value) (r w:List Nat),L.drop i=t→t.length<k →
 H6 (go (a2S (b6f H8 N call v u) k [g0,g1,g2,g3,g4,g5,g6,g7,g8,g9,g10,g11,g12,.bool false,g14,g15,.int .i64 (.ofNat i)]) ⟨c,h,r,w⟩)
  fun x s=>s.c=c∧s.h=h∧x.1=.exit 0:=by
 intro t
 have hlen:=H.len
 rw [List.length_map] at hlen
 induction t with
 | nil=>
   intro i k g0 g1 g2 g3 g4 g5 g6 g7 g8 g9 g10 g11 g12 g14 g15 r w hd hk
   obtain ⟨k,rfl⟩:∃ m,k=m+1:=⟨k - 1,by simp at hk; omega⟩
   have hi:Nat.blt i L.length=false:=by
    have:L.length≤i:=by simpa [List.drop_eq_nil_iff] using hd
    cases q:Nat.blt i L.length with
    | false=>rfl
    | true=>have:i<L.length:=by simpa [Nat.blt_eq] using q
            omega
   simp (config:={ maxSteps:=10000000 }) (disch:=first | assumption | omega | (simp only [l9,w9,F3,j6,A8,E8,D8,I5,G9,I9,I8,H7,o9,D5,G8,Nat.reduceAdd,D7,E9,Nat.reduceBEq,G5,F9,d9,j5,l6,z8,D9,F7,F5,F4,G6,C8,q9,A9,q8,l8,l7,E5,C9,G7,IntKind.bits,D6,r9,o7] <;> omega) | assumption) only [a1d,c3h,c1D,c1s,c2Y,b6f,b9n,c2c,hlen,a2t,hi,bn,U0,V5,I4,K3,P7,J2,X4,Y3,M6,a2N,V.e1g,a0t,a0G]
   exact H6.done ⟨rfl,rfl,rfl⟩
 | cons x t ih=>
   intro i k g0 g1 g2 g3 g4 g5 g6 g7 g8 g9 g10 g11 g12 g14 g15 r w hd hk
   obtain ⟨k,rfl⟩:∃ m,k=m+1:=⟨k - 1,by simp at hk; omega⟩
   have hil:i<L.length:=by
    have:=congrArg List.length hd; simp at this; omega
   have hi:Nat.blt i L.length=true:=H9 hil
   have hq:L[i]?=some x:=by
    have:=congrArg (fun t=>t[0]?) hd; simpa using this
   have hd':L.drop (i+1)=t:=by
    have:=congrArg List.tail hd; simpa using this
   have hinc:=a4G i (by omega)
   have hx:(L.map a6s)[i]?=some (.string ⟨⟨x⟩⟩):=by rw [List.getElem?_map,hq]; rfl
   obtain ⟨p,b,_,e1,e2⟩:=H.read (Nat.le_refl c) (fun _ _=>rfl) hx
   obtain ⟨p',b',_,e3,e4⟩:=G.read (Nat.le_refl c) (fun _ _=>rfl) hx
   have ft:a0A a9B (a1Y a9B [([], []),([], []),([], []),([b], []),([], []),([], []),([], []),([b'], []),([], [])]) [] [] 0=true:=b9m rfl (by simp only [H7,G5,F9,C8,q9,A9,q8,l7])
   simp (config:={ maxSteps:=10000000 }) (disch:=first | assumption | omega | (simp only [O1,N8,N7,M9,F8,Nat.reduceMul,Nat.reduceLT,l9,w9,F3,j6,A8,E8,D8,I5,G9,I9,I8,H7,o9,D5,G8,Nat.reduceAdd,D7,E9,Nat.reduceBEq,G5,F9,d9,j5,l6,z8,D9,F7,F5,F4,G6,C8,q9,A9,q8,l8,l7,E5,C9,G7,IntKind.bits,D6,r9,o7] <;> omega) | assumption) only [a1d,c3h,c1D,c1s,c2Y,b6f,b9n,c2c,b9m,hlen,a2t,hi,e1,e2,e3,e4,b5t,hinc,G9,bn,U0,V5,J6,I4,K3,P7,r9,o7,J3,J2,X4,Y3,M6,K6,V.e1g,R5,a0t,a0G,a8u,a0q,V7]
   exact ih (i+1) k _ _ _ _ _ _ _ _ _ _ _ _ _ _ _ _ _ hd' (by simp at hk; omega)
theorem t16 (N:Nat) (call:o8) (c:Nat) (h:Trie VObj) (v u:Value) (L:List (List UInt8)) (H:Q6 c h v (L.map a6s)) (G:Q6 c h u (L.map a6s)) (hl:L.length<4294967296) (hN:L.length<N) (r w:List Nat) :
 H6 (go (b4z H8 N call v u) ⟨c,h,r,w⟩) fun x s=>x=.ret (.bool true)∧s.c=c∧s.h=h:=by
 have h1:=H.len
 have h2:=G.len
 rw [List.length_map] at h1 h2
 simp (config:={ maxSteps:=10000000 }) (disch:=first | assumption | omega | (simp only [O1,N8,N7,M9,F8,Nat.reduceMul,Nat.reduceLT,l9,w9,F3,j6,A8,E8,D8,I5,G9,I9,I8,H7,o9,D5,G8,Nat.reduceAdd,D7,E9,Nat.reduceBEq,G5,F9,d9,j5,l6,z8,D9,F7,F5,F4,G6,C8,q9,A9,q8,l8,l7,E5,C9,G7,IntKind.bits,D6,r9,o7] <;> omega) | assumption) only [b4z,c6Q,h1,h2,decide_true,G9,bn,U0,V5,a1P,J6,J2,M6,V.e1g,a0v]
 refine H6.bindS (c5V N call c h v u L H G hl L 0 N _ _ _ _ _ _ _ _ _ _ _ _ _ _ _ r w rfl hN) fun x s hq=>?_
 obtain ⟨x1,x2⟩:=x
 obtain ⟨c',h',r',w'⟩:=s
 obtain ⟨rfl,rfl,rfl⟩:=hq
 simp (config:={ maxSteps:=10000000 }) (disch:=first | assumption | omega | (simp only [O1,N8,N7,M9,F8,Nat.reduceMul,Nat.reduceLT,l9,w9,F3,j6,A8,E8,D8,I5,G9,I9,I8,H7,o9,D5,G8,Nat.reduceAdd,D7,E9,Nat.reduceBEq,G5,F9,d9,j5,l6,z8,D9,F7,F5,F4,G6,C8,q9,A9,q8,l8,l7,E5,C9,G7,IntKind.bits,D6,r9,o7] <;> omega) | assumption) only [K3,b0d,a2W,a2N]
 exact H6.done ⟨rfl,rfl,rfl⟩
end Go.Proofs.YtmomonnlmbljoaaGreatDoor
end
