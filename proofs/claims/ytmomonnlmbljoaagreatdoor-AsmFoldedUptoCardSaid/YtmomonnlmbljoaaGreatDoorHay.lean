import Derived.Test.YtmomonnlmbljoaaGreatDoorRows
import Derived.Test.YtmomonnlmbljoaaGreatDoorHag
import Derived.Test.YtmomonnlmbljoaaGreatDoorHak
import Derived.Test.YtmomonnlmbljoaaGreatDoorHas
import Derived.Test.YtmomonnlmbljoaaGreatDoorHax
set_option maxRecDepth 1000000
set_option maxHeartbeats 4000000
set_option linter.unusedVariables false
set_option linter.unusedSimpArgs false
section
namespace Go.Proofs.YtmomonnlmbljoaaGreatDoor.S
open Go.V Go.RowKit Go.Shelf Go.Proofs
variable {mL:Int}
noncomputable def e7:Nat->Option (List Value->M Value):=(C8 e6 41 (a4B q41))
noncomputable def s7:a0g:=(I3 s6 41 (a4B q41))
theorem L7:Shelf' Tryz.prog tab (A2 mL) NN e7 s7:=(L6).add d9i
theorem c4N (n m)(h:m<9223372036854775808):j0 s7 (n+1) 37 [.int .i64 (.ofNat m)]=M.pure (.ret (.string ⟨⟨Lib.decDigits m⟩⟩)):=by refine K6 s7 n 37 _ (g:=b1L) zw ?_;show bcase (decide (-9223372036854775808<=(Int.ofNat m))&&decide ((Int.ofNat m)<=9223372036854775807)) _ none=_;rw[xL yu,xL yu];rfl
theorem N5 (X) {K} (hk:w6 X.op=K):Calls12 NN (j0 s7 3) (j0 s7 2) (j0 s7 1) X K where
 h35:=U7 (q:=fun z=>some (.string ⟨⟨M0 z⟩⟩)) zw 2 rfl
 h39:=by rw [← hk]; exact U7 (q:=fun z=>some (.int .i64 (.ofNat (w6 z)))) zw 2 rfl
 h36:=fun a b=>Z9 (q:=b1g) (N:=NN) zw 2 a b
 h36':=fun a b=>Z9 (q:=b1g) (N:=NN) zw 1 a b
 h37c:=c4N 2
 h37:=c4N 1
 h37':=c4N 0
 h38:=fun a b=>Z9 (q:=c3A) (N:=NN) zw 2 a b
 h44:=fun a=>O0 (q:=c2Z) (N:=NN) zw 2 a
 h96:=fun a b=>a2R s7 1 96 [a,b] (g:=a5I) zw
theorem e0g (n z):j0 s7 (n+1) 40 [.int .i64 z]=M.pure (.ret (.string ⟨⟨I0 z⟩⟩)):=U7 (q:=λz=>some (.string ⟨⟨I0 z⟩⟩)) zw n rfl
theorem d9L (n z):j0 s7 (n+1) 43 [.int .i64 z]=M.pure (.ret (.string ⟨⟨bcase (decide (z=3)) [102,117,110,99] [101,120,116,101,114,110]⟩⟩)):=U7 (q:=λz=>some (.string ⟨⟨bcase (decide (z=3)) [102,117,110,99] [101,120,116,101,114,110]⟩⟩)) zw n rfl
theorem d7X (n m)(h:m<4294967296):j0 s7 (n+1) 42 [.int .u64 (.ofNat m),.int .i64 (.ofNat 32)]=M.pure (.ret (.string ⟨⟨Lib.itoa (sgn 32 m)⟩⟩)):=G6 (q:=a7s) zw n (c9v m h)
theorem d7z (n m)(h:m<18446744073709551616):j0 s7 (n+1) 42 [.int .u64 (.ofNat m),.int .i64 (.ofNat 64)]=M.pure (.ret (.string ⟨⟨Lib.itoa (sgn 64 m)⟩⟩)):=G6 (q:=a7s) zw n (d0a m h)
theorem e1Y (n k v i)(h1:-9223372036854775808<=i)(h2:i<=9223372036854775807):j0 s7 (n+1) 14 [.agg ⟨[.int .i64 k,.int .i64 v,.int .i64 i]⟩]=M.pure (.ret (.string ⟨⟨a4C k v i⟩⟩)):=c2C (q:=b2s) zw n (d2Z k v i h1 h2)
theorem b7y (n a):j0 s7 (n+1) 41 [a]=M.bind (a4B q41 [a]) λv=>M.pure (.ret v):=a2R s7 n 41 [a] (g:=a4B q41) zw
theorem cI3 {q sh f}(hf:sh.get f=some (arX (XI q))){c h X x y}(H:InsAt c h X x)(e:q X=some y)(hh)(hb:∀b,b<c->hh.get b=h.get b):∃z:List Nat->List Nat,∀r w,go (j0 sh 3 f [x]) ⟨c+1,hh,r,w⟩=some (.ret y,⟨c+1,hh,z r,w⟩):=by obtain⟨z,hz⟩:=d6J H (wy c) hb e;exact⟨z,λr w=>d1a hf 2 (hz r w)⟩
theorem d5U {k v i}(h:Z8 k v i=true):beqBytes (a4C k v i) []=decide (k=0):=by unfold Z8 at h;cases h0:decide (k=0)with|true=>have:k=0:=wj h0;subst this;rfl|false=>rw[h0]at h;cases h1:decide (k=1)with|true=>rw[h1]at h;have h':(X5 v&&decide (i=0))=true:=h;rw[xM]at h';unfold a4C;rw[h1,h'.1];rfl|false=>rw[h1]at h;have h':(decide (k=2)&&decide (v=0)&&idxB i)=true:=h;rw[xM,xM]at h';unfold a4C;rw[h1,h'.1.1];rfl
theorem e2v (X tv lv)(hk:w6 X.op=0)(F:PlainF 0 X)(hN:X.N<18446744073709551616)(c h)(h34:∀hh,(∀b,b<c->hh.get b=h.get b)->∃z:List Nat->List Nat,∀r w,go (j0 s7 3 34 [o8 X tv lv]) ⟨c+1,hh,r,w⟩=some (.ret (.bool true),⟨c+1,hh,z r,w⟩))(H:InsAt c h X (o8 X tv lv))(Ht:C0 c h tv (A7 X.types))(Hl:C0 c h lv (A7 X.labels))(r w):d8 (go (N1 i7 NN (j0 s7 3) (o8 X tv lv)) ⟨c,h,r,w⟩) λx s=>x=.ret (.string ⟨⟨W8 X⟩⟩)/\∀i,i<c->s.h.get i=h.get i:=by obtain⟨a,hA,ha⟩:=D4 F.A;obtain⟨b,hB,hb⟩:=D4 F.B;exact(e3m NN _ _ _ X tv lv a b hA hB ha hb c h h34 (N5 X hk) Ht Hl r w).mono λx s ⟨q,q'⟩=>⟨yV,q'⟩
theorem e2Q (X tv lv)(hk:w6 X.op=2)(F:PlainF 2 X)(hN:X.N<18446744073709551616)(c h)(h34:∀hh,(∀b,b<c->hh.get b=h.get b)->∃z:List Nat->List Nat,∀r w,go (j0 s7 3 34 [o8 X tv lv]) ⟨c+1,hh,r,w⟩=some (.ret (.bool true),⟨c+1,hh,z r,w⟩))(H:InsAt c h X (o8 X tv lv))(Ht:C0 c h tv (A7 X.types))(Hl:C0 c h lv (A7 X.labels))(r w):d8 (go (N1 i7 NN (j0 s7 3) (o8 X tv lv)) ⟨c,h,r,w⟩) λx s=>x=.ret (.string ⟨⟨W8 X⟩⟩)/\∀i,i<c->s.h.get i=h.get i:=by obtain⟨a,hA,ha⟩:=D4 F.A;obtain⟨b,hB,hb⟩:=D4 F.B;exact(d9F NN _ _ _ X tv lv a b hA hB ha hb c h h34 (N5 X hk) Ht Hl r w).mono λx s ⟨q,q'⟩=>⟨zT,q'⟩
theorem e0d (X tv lv)(hk:w6 X.op=4)(F:PlainF 4 X)(hN:X.N<18446744073709551616)(c h)(h34:∀hh,(∀b,b<c->hh.get b=h.get b)->∃z:List Nat->List Nat,∀r w,go (j0 s7 3 34 [o8 X tv lv]) ⟨c+1,hh,r,w⟩=some (.ret (.bool true),⟨c+1,hh,z r,w⟩))(H:InsAt c h X (o8 X tv lv))(Ht:C0 c h tv (A7 X.types))(Hl:C0 c h lv (A7 X.labels))(r w):d8 (go (N1 i7 NN (j0 s7 3) (o8 X tv lv)) ⟨c,h,r,w⟩) λx s=>x=.ret (.string ⟨⟨W8 X⟩⟩)/\∀i,i<c->s.h.get i=h.get i:=by obtain⟨a,hA,ha⟩:=D4 F.A;obtain⟨b,hB,hb⟩:=D4 F.B;exact(e0o NN _ _ _ X tv lv a b hA hB ha hb c h h34 (N5 X hk) Ht Hl r w).mono λx s ⟨q,q'⟩=>⟨zT,q'⟩
theorem e0y (X tv lv)(hk:w6 X.op=7)(F:PlainF 7 X)(hN:X.N<18446744073709551616)(c h)(h34:∀hh,(∀b,b<c->hh.get b=h.get b)->∃z:List Nat->List Nat,∀r w,go (j0 s7 3 34 [o8 X tv lv]) ⟨c+1,hh,r,w⟩=some (.ret (.bool true),⟨c+1,hh,z r,w⟩))(H:InsAt c h X (o8 X tv lv))(Ht:C0 c h tv (A7 X.types))(Hl:C0 c h lv (A7 X.labels))(r w):d8 (go (N1 i7 NN (j0 s7 3) (o8 X tv lv)) ⟨c,h,r,w⟩) λx s=>x=.ret (.string ⟨⟨W8 X⟩⟩)/\∀i,i<c->s.h.get i=h.get i:=by obtain⟨a,hA,ha⟩:=D4 F.A;obtain⟨b,hB,hb⟩:=D4 F.B;exact(e2f NN _ _ _ X tv lv a b hA hB ha hb c h h34 (N5 X hk) Ht Hl r w).mono λx s ⟨q,q'⟩=>⟨zT,q'⟩
theorem e2m (X tv lv)(hk:w6 X.op=8)(F:PlainF 8 X)(hN:X.N<18446744073709551616)(c h)(h34:∀hh,(∀b,b<c->hh.get b=h.get b)->∃z:List Nat->List Nat,∀r w,go (j0 s7 3 34 [o8 X tv lv]) ⟨c+1,hh,r,w⟩=some (.ret (.bool true),⟨c+1,hh,z r,w⟩))(H:InsAt c h X (o8 X tv lv))(Ht:C0 c h tv (A7 X.types))(Hl:C0 c h lv (A7 X.labels))(r w):d8 (go (N1 i7 NN (j0 s7 3) (o8 X tv lv)) ⟨c,h,r,w⟩) λx s=>x=.ret (.string ⟨⟨W8 X⟩⟩)/\∀i,i<c->s.h.get i=h.get i:=by obtain⟨a,hA,ha⟩:=D4 F.A;obtain⟨b,hB,hb⟩:=D4 F.B;exact(e0L NN _ _ _ X tv lv a b hA hB ha hb c h h34 (N5 X hk) Ht Hl r w).mono λx s ⟨q,q'⟩=>⟨zT,q'⟩
theorem d5d (X tv lv)(hk:w6 X.op=12)(F:PlainF 12 X)(hN:X.N<18446744073709551616)(c h)(h34:∀hh,(∀b,b<c->hh.get b=h.get b)->∃z:List Nat->List Nat,∀r w,go (j0 s7 3 34 [o8 X tv lv]) ⟨c+1,hh,r,w⟩=some (.ret (.bool true),⟨c+1,hh,z r,w⟩))(H:InsAt c h X (o8 X tv lv))(Ht:C0 c h tv (A7 X.types))(Hl:C0 c h lv (A7 X.labels))(r w):d8 (go (N1 i7 NN (j0 s7 3) (o8 X tv lv)) ⟨c,h,r,w⟩) λx s=>x=.ret (.string ⟨⟨W8 X⟩⟩)/\∀i,i<c->s.h.get i=h.get i:=by obtain⟨a,hA,ha⟩:=D4 F.A;obtain⟨b,hB,hb⟩:=D4 F.B;exact(d7d NN _ _ _ X tv lv a b hA hB ha hb c h h34 (N5 X hk) Ht Hl r w).mono λx s ⟨q,q'⟩=>⟨zT,q'⟩
theorem d8H (X tv lv)(hk:w6 X.op=16)(F:PlainF 16 X)(hN:X.N<18446744073709551616)(c h)(h34:∀hh,(∀b,b<c->hh.get b=h.get b)->∃z:List Nat->List Nat,∀r w,go (j0 s7 3 34 [o8 X tv lv]) ⟨c+1,hh,r,w⟩=some (.ret (.bool true),⟨c+1,hh,z r,w⟩))(H:InsAt c h X (o8 X tv lv))(Ht:C0 c h tv (A7 X.types))(Hl:C0 c h lv (A7 X.labels))(r w):d8 (go (N1 i7 NN (j0 s7 3) (o8 X tv lv)) ⟨c,h,r,w⟩) λx s=>x=.ret (.string ⟨⟨W8 X⟩⟩)/\∀i,i<c->s.h.get i=h.get i:=by obtain⟨a,hA,ha⟩:=D4 F.A;obtain⟨b,hB,hb⟩:=D4 F.B;exact(d7E NN _ _ _ X tv lv a b hA hB ha hb c h h34 (N5 X hk) Ht Hl r w).mono λx s ⟨q,q'⟩=>⟨zT,q'⟩
theorem e2s (X tv lv)(hk:w6 X.op=9)(F:PlainF 9 X)(hN:X.N<18446744073709551616)(c h)(h34:∀hh,(∀b,b<c->hh.get b=h.get b)->∃z:List Nat->List Nat,∀r w,go (j0 s7 3 34 [o8 X tv lv]) ⟨c+1,hh,r,w⟩=some (.ret (.bool true),⟨c+1,hh,z r,w⟩))(H:InsAt c h X (o8 X tv lv))(Ht:C0 c h tv (A7 X.types))(Hl:C0 c h lv (A7 X.labels))(r w):d8 (go (N1 i7 NN (j0 s7 3) (o8 X tv lv)) ⟨c,h,r,w⟩) λx s=>x=.ret (.string ⟨⟨W8 X⟩⟩)/\∀i,i<c->s.h.get i=h.get i:=by obtain⟨a,hA,ha⟩:=D4 F.A;obtain⟨b,hB,hb⟩:=D4 F.B;exact(e1l NN _ _ _ X tv lv a b hA hB ha hb c h h34 (N5 X hk) Ht Hl r w).mono λx s ⟨q,q'⟩=>⟨zT,q'⟩
theorem d4E (X tv lv)(hk:w6 X.op=13)(F:PlainF 13 X)(hN:X.N<18446744073709551616)(c h)(h34:∀hh,(∀b,b<c->hh.get b=h.get b)->∃z:List Nat->List Nat,∀r w,go (j0 s7 3 34 [o8 X tv lv]) ⟨c+1,hh,r,w⟩=some (.ret (.bool true),⟨c+1,hh,z r,w⟩))(H:InsAt c h X (o8 X tv lv))(Ht:C0 c h tv (A7 X.types))(Hl:C0 c h lv (A7 X.labels))(r w):d8 (go (N1 i7 NN (j0 s7 3) (o8 X tv lv)) ⟨c,h,r,w⟩) λx s=>x=.ret (.string ⟨⟨W8 X⟩⟩)/\∀i,i<c->s.h.get i=h.get i:=by obtain⟨a,hA,ha⟩:=D4 F.A;obtain⟨b,hB,hb⟩:=D4 F.B;exact(d6q NN _ _ _ X tv lv a b hA hB ha hb c h h34 (N5 X hk) Ht Hl r w).mono λx s ⟨q,q'⟩=>⟨by rw[q,Q9 hk (by unfold a0s;rw[hB];rfl)],q'⟩
theorem d5W (X tv lv)(hk:w6 X.op=10)(F:PlainF 10 X)(hN:X.N<18446744073709551616)(c h)(h34:∀hh,(∀b,b<c->hh.get b=h.get b)->∃z:List Nat->List Nat,∀r w,go (j0 s7 3 34 [o8 X tv lv]) ⟨c+1,hh,r,w⟩=some (.ret (.bool true),⟨c+1,hh,z r,w⟩))(H:InsAt c h X (o8 X tv lv))(Ht:C0 c h tv (A7 X.types))(Hl:C0 c h lv (A7 X.labels))(r w):d8 (go (N1 i7 NN (j0 s7 3) (o8 X tv lv)) ⟨c,h,r,w⟩) λx s=>x=.ret (.string ⟨⟨W8 X⟩⟩)/\∀i,i<c->s.h.get i=h.get i:=by obtain⟨a,hA,ha⟩:=D4 F.A;obtain⟨b,hB,hb⟩:=D4 F.B;exact(d7N NN _ _ _ X tv lv a b hA hB ha hb c h h34 (N5 X hk) Ht Hl r w).mono λx s ⟨q,q'⟩=>⟨yv,q'⟩
theorem d7g (X tv lv)(hk:w6 X.op=14)(F:PlainF 14 X)(hN:X.N<18446744073709551616)(c h)(h34:∀hh,(∀b,b<c->hh.get b=h.get b)->∃z:List Nat->List Nat,∀r w,go (j0 s7 3 34 [o8 X tv lv]) ⟨c+1,hh,r,w⟩=some (.ret (.bool true),⟨c+1,hh,z r,w⟩))(H:InsAt c h X (o8 X tv lv))(Ht:C0 c h tv (A7 X.types))(Hl:C0 c h lv (A7 X.labels))(r w):d8 (go (N1 i7 NN (j0 s7 3) (o8 X tv lv)) ⟨c,h,r,w⟩) λx s=>x=.ret (.string ⟨⟨W8 X⟩⟩)/\∀i,i<c->s.h.get i=h.get i:=by obtain⟨a,hA,ha⟩:=D4 F.A;obtain⟨b,hB,hb⟩:=D4 F.B;exact(d5h NN _ _ _ X tv lv a b hA hB ha hb c h h34 (N5 X hk) Ht Hl r w).mono λx s ⟨q,q'⟩=>⟨yv,q'⟩
theorem d8W (X tv lv)(hk:w6 X.op=11)(F:PlainF 11 X)(hN:X.N<18446744073709551616)(c h)(h34:∀hh,(∀b,b<c->hh.get b=h.get b)->∃z:List Nat->List Nat,∀r w,go (j0 s7 3 34 [o8 X tv lv]) ⟨c+1,hh,r,w⟩=some (.ret (.bool true),⟨c+1,hh,z r,w⟩))(H:InsAt c h X (o8 X tv lv))(Ht:C0 c h tv (A7 X.types))(Hl:C0 c h lv (A7 X.labels))(r w):d8 (go (N1 i7 NN (j0 s7 3) (o8 X tv lv)) ⟨c,h,r,w⟩) λx s=>x=.ret (.string ⟨⟨W8 X⟩⟩)/\∀i,i<c->s.h.get i=h.get i:=by obtain⟨a,hA,ha⟩:=D4 F.A;obtain⟨b,hB,hb⟩:=D4 F.B;exact(d8e NN _ _ _ X tv lv a b hA hB ha hb c h h34 (N5 X hk) Ht Hl r w).mono λx s ⟨q,q'⟩=>⟨yv,q'⟩
theorem d8f (X tv lv)(hk:w6 X.op=15)(F:PlainF 15 X)(hN:X.N<18446744073709551616)(c h)(h34:∀hh,(∀b,b<c->hh.get b=h.get b)->∃z:List Nat->List Nat,∀r w,go (j0 s7 3 34 [o8 X tv lv]) ⟨c+1,hh,r,w⟩=some (.ret (.bool true),⟨c+1,hh,z r,w⟩))(H:InsAt c h X (o8 X tv lv))(Ht:C0 c h tv (A7 X.types))(Hl:C0 c h lv (A7 X.labels))(r w):d8 (go (N1 i7 NN (j0 s7 3) (o8 X tv lv)) ⟨c,h,r,w⟩) λx s=>x=.ret (.string ⟨⟨W8 X⟩⟩)/\∀i,i<c->s.h.get i=h.get i:=by obtain⟨a,hA,ha⟩:=D4 F.A;obtain⟨b,hB,hb⟩:=D4 F.B;exact(d5Z NN _ _ _ X tv lv a b hA hB ha hb c h h34 (N5 X hk) Ht Hl r w).mono λx s ⟨q,q'⟩=>⟨yv,q'⟩
theorem e1x (X tv lv)(hk:w6 X.op=5)(F:PlainF 5 X)(hN:X.N<18446744073709551616)(c h)(h34:∀hh,(∀b,b<c->hh.get b=h.get b)->∃z:List Nat->List Nat,∀r w,go (j0 s7 3 34 [o8 X tv lv]) ⟨c+1,hh,r,w⟩=some (.ret (.bool true),⟨c+1,hh,z r,w⟩))(H:InsAt c h X (o8 X tv lv))(Ht:C0 c h tv (A7 X.types))(Hl:C0 c h lv (A7 X.labels))(r w):d8 (go (N1 i7 NN (j0 s7 3) (o8 X tv lv)) ⟨c,h,r,w⟩) λx s=>x=.ret (.string ⟨⟨W8 X⟩⟩)/\∀i,i<c->s.h.get i=h.get i:=by obtain⟨a,hA,ha⟩:=D4 F.A;obtain⟨b,hB,hb⟩:=D4 F.B;exact(d9o NN _ _ _ X tv lv a b hA hB ha hb c h h34 (N5 X hk) Ht Hl r w).mono λx s ⟨q,q'⟩=>⟨yv,q'⟩
theorem d9d (X tv lv)(hk:w6 X.op=18)(F:PlainF 18 X)(hN:X.N<18446744073709551616)(c h)(h34:∀hh,(∀b,b<c->hh.get b=h.get b)->∃z:List Nat->List Nat,∀r w,go (j0 s7 3 34 [o8 X tv lv]) ⟨c+1,hh,r,w⟩=some (.ret (.bool true),⟨c+1,hh,z r,w⟩))(H:InsAt c h X (o8 X tv lv))(Ht:C0 c h tv (A7 X.types))(Hl:C0 c h lv (A7 X.labels))(r w):d8 (go (N1 i7 NN (j0 s7 3) (o8 X tv lv)) ⟨c,h,r,w⟩) λx s=>x=.ret (.string ⟨⟨W8 X⟩⟩)/\∀i,i<c->s.h.get i=h.get i:=by obtain⟨a,hA,ha⟩:=D4 F.A;obtain⟨b,hB,hb⟩:=D4 F.B;exact(d7P NN _ _ _ X tv lv a b hA hB ha hb (d7X 2 _ (F.N rfl)) (wg (a6k (sgn 32 X.N) (b2P _ (F.N rfl)) (by have:=b2Z _ (F.N rfl);omega)) zv) c h h34 (N5 X hk) Ht Hl r w).mono λx s ⟨q,q'⟩=>⟨yV,q'⟩
theorem d7M (X tv lv)(hk:w6 X.op=19)(F:PlainF 19 X)(hN:X.N<18446744073709551616)(c h)(h34:∀hh,(∀b,b<c->hh.get b=h.get b)->∃z:List Nat->List Nat,∀r w,go (j0 s7 3 34 [o8 X tv lv]) ⟨c+1,hh,r,w⟩=some (.ret (.bool true),⟨c+1,hh,z r,w⟩))(H:InsAt c h X (o8 X tv lv))(Ht:C0 c h tv (A7 X.types))(Hl:C0 c h lv (A7 X.labels))(r w):d8 (go (N1 i7 NN (j0 s7 3) (o8 X tv lv)) ⟨c,h,r,w⟩) λx s=>x=.ret (.string ⟨⟨W8 X⟩⟩)/\∀i,i<c->s.h.get i=h.get i:=by obtain⟨a,hA,ha⟩:=D4 F.A;obtain⟨b,hB,hb⟩:=D4 F.B;exact(d4V NN _ _ _ X tv lv a b hA hB ha hb (d7z 2 _ hN) (wg (a6k (sgn 64 X.N) zB zB) zv) c h h34 (N5 X hk) Ht Hl r w).mono λx s ⟨q,q'⟩=>⟨yV,q'⟩
theorem d5L (X tv lv)(hk:w6 X.op=20)(F:PlainF 20 X)(hN:X.N<18446744073709551616)(c h)(h34:∀hh,(∀b,b<c->hh.get b=h.get b)->∃z:List Nat->List Nat,∀r w,go (j0 s7 3 34 [o8 X tv lv]) ⟨c+1,hh,r,w⟩=some (.ret (.bool true),⟨c+1,hh,z r,w⟩))(H:InsAt c h X (o8 X tv lv))(Ht:C0 c h tv (A7 X.types))(Hl:C0 c h lv (A7 X.labels))(r w):d8 (go (N1 i7 NN (j0 s7 3) (o8 X tv lv)) ⟨c,h,r,w⟩) λx s=>x=.ret (.string ⟨⟨W8 X⟩⟩)/\∀i,i<c->s.h.get i=h.get i:=by obtain⟨a,hA,ha⟩:=D4 F.A;obtain⟨b,hB,hb⟩:=D4 F.B;exact(d7s NN _ _ _ X tv lv a b hA hB ha hb (d9L 2 _) c h h34 (N5 X hk) Ht Hl r w).mono λx s ⟨q,q'⟩=>⟨yV,q'⟩
theorem e0Y (X tv lv)(hk:w6 X.op=1)(F:PlainF 1 X)(hN:X.N<18446744073709551616)(c h)(h34:∀hh,(∀b,b<c->hh.get b=h.get b)->∃z:List Nat->List Nat,∀r w,go (j0 s7 3 34 [o8 X tv lv]) ⟨c+1,hh,r,w⟩=some (.ret (.bool true),⟨c+1,hh,z r,w⟩))(H:InsAt c h X (o8 X tv lv))(Ht:C0 c h tv (A7 X.types))(Hl:C0 c h lv (A7 X.labels))(r w):d8 (go (N1 i7 NN (j0 s7 3) (o8 X tv lv)) ⟨c,h,r,w⟩) λx s=>x=.ret (.string ⟨⟨W8 X⟩⟩)/\∀i,i<c->s.h.get i=h.get i:=by obtain⟨a,hA,ha⟩:=D4 F.A;obtain⟨b,hB,hb⟩:=D4 F.B;have hbk:Z8 X.k X.v X.i=true:=F.rest;obtain⟨i1,i2⟩:=c6Q hbk;exact(e2j NN _ _ _ X tv lv a b hA hB ha hb (b9v _ _ _ i1 i2) (d5U hbk) (e1Y 2 _ _ _ i1 i2) c h h34 (N5 X hk) Ht Hl r w).mono λx s ⟨q,q'⟩=>⟨yV,q'⟩
theorem e1S (X tv lv)(hk:w6 X.op=6)(F:PlainF 6 X)(hN:X.N<18446744073709551616)(c h)(h34:∀hh,(∀b,b<c->hh.get b=h.get b)->∃z:List Nat->List Nat,∀r w,go (j0 s7 3 34 [o8 X tv lv]) ⟨c+1,hh,r,w⟩=some (.ret (.bool true),⟨c+1,hh,z r,w⟩))(H:InsAt c h X (o8 X tv lv))(Ht:C0 c h tv (A7 X.types))(Hl:C0 c h lv (A7 X.labels))(r w):d8 (go (N1 i7 NN (j0 s7 3) (o8 X tv lv)) ⟨c,h,r,w⟩) λx s=>x=.ret (.string ⟨⟨W8 X⟩⟩)/\∀i,i<c->s.h.get i=h.get i:=by obtain⟨a,hA,ha⟩:=D4 F.A;obtain⟨b,hB,hb⟩:=D4 F.B;have ht:a8e X.types=true:=F.rest;unfold a8e at ht;split at ht;rename_i t e;exact(e1y NN _ _ _ X tv lv a b hA hB ha hb t e (e0g 2) c h h34 (N5 X hk) Ht Hl r w).mono λx s ⟨q,q'⟩=>⟨by rw[q,Q9 hk (by unfold a0s;rw[e];rfl)],q'⟩;cases ht
theorem e2X (X tv lv)(hk:w6 X.op=3)(F:PlainF 3 X)(hN:X.N<18446744073709551616)(c h)(h34:∀hh,(∀b,b<c->hh.get b=h.get b)->∃z:List Nat->List Nat,∀r w,go (j0 s7 3 34 [o8 X tv lv]) ⟨c+1,hh,r,w⟩=some (.ret (.bool true),⟨c+1,hh,z r,w⟩))(H:InsAt c h X (o8 X tv lv))(Ht:C0 c h tv (A7 X.types))(Hl:C0 c h lv (A7 X.labels))(r w):d8 (go (N1 i7 NN (j0 s7 3) (o8 X tv lv)) ⟨c,h,r,w⟩) λx s=>x=.ret (.string ⟨⟨W8 X⟩⟩)/\∀i,i<c->s.h.get i=h.get i:=by obtain⟨a,hA,ha⟩:=D4 F.A;obtain⟨b,hB,hb⟩:=D4 F.B;obtain⟨q1,q2⟩:=b3e (show idxAll X.labels=true from F.rest);have hl:=H.l;exact(e2K NN zv _ _ _ X tv lv a b hA hB ha hb _ q1 q2 (by rw[xF];exact hl) c h h34 (N5 X hk) Ht Hl r w).mono λx s ⟨q,q'⟩=>⟨zT,q'⟩
theorem d5J (X tv lv)(hk:w6 X.op=17)(F:PlainF 17 X)(hN:X.N<18446744073709551616)(c h)(h34:∀hh,(∀b,b<c->hh.get b=h.get b)->∃z:List Nat->List Nat,∀r w,go (j0 s7 3 34 [o8 X tv lv]) ⟨c+1,hh,r,w⟩=some (.ret (.bool true),⟨c+1,hh,z r,w⟩))(H:InsAt c h X (o8 X tv lv))(Ht:C0 c h tv (A7 X.types))(Hl:C0 c h lv (A7 X.labels))(r w):d8 (go (N1 i7 NN (j0 s7 3) (o8 X tv lv)) ⟨c,h,r,w⟩) λx s=>x=.ret (.string ⟨⟨W8 X⟩⟩)/\∀i,i<c->s.h.get i=h.get i:=by
 obtain⟨a,hA,ha⟩:=D4 F.A;obtain⟨b,hB,hb⟩:=D4 F.B;have ha63:X.A<=63:=by simpa using(show decide (X.A<=63)=true from F.rest)
 obtain⟨al,hal⟩:=e1W hk;have hN':X.N<4294967296:=F.N rfl;have ha':a<=63:=by rw[hA]at ha63;simp only[wz]at ha63;omega
 have e0:q41 [o8 X tv lv]=some (a3S a X.N al):=by obtain⟨ta,te,rfl,_⟩:=Ht;obtain⟨la,le,rfl,_⟩:=Hl;unfold o8;rw[hA];show bcase (decide (a<=63)&&(Nat.blt X.N 4294967296&&(N4 R7 X.op).isSome)) _ none=_;rw[xL ha',A5 hN',hal];rfl
 have lo:j9 (111::102::102::115::101::116::61::Lib.decDigits X.N)<=60:=by have:=C2 X.N zy;simp only[W3];omega
 have la:j9 (97::108::105::103::110::61::Lib.decDigits (2^a))<=60:=by have:=C2 (2^a) (b4l a ha');simp only[W3];omega
 cases hz:X.N.beq 0 with
  |true=>cases hy:a.beq al with|true=>have hq:q41 [o8 X tv lv]=some []:=yT;exact(d3C NN _ _ _ X tv lv a b hA hB ha hb [] [] (wR _) (wR _) (b7y 2) hq c h h34 (N5 X hk) Ht Hl r w).mono λx s ⟨q,q'⟩=>⟨by rw[q,Q9 hk (by unfold a0s;rw[hA,hB,hal];show m9 (m9 (P9 b) (a1p X.N)) (a7W a al)=_;unfold a1p a7W;rw[hz,hy];simp only[N8,v8,xJ])],q'⟩|false=>have hq:q41 [o8 X tv lv]=some [.string ⟨⟨(97::108::105::103::110::61::Lib.decDigits (2^a))⟩⟩]:=yT;exact(c1C NN _ _ _ X tv lv a b hA hB ha hb (97::108::105::103::110::61::Lib.decDigits (2^a)) [] la (wR _) (b7y 2) hq c h h34 (N5 X hk) Ht Hl r w).mono λx s ⟨q,q'⟩=>⟨yd,q'⟩
  |false=>cases hy:a.beq al with|true=>have hq:q41 [o8 X tv lv]=some [.string ⟨⟨(111::102::102::115::101::116::61::Lib.decDigits X.N)⟩⟩]:=yT;exact(c1C NN _ _ _ X tv lv a b hA hB ha hb (111::102::102::115::101::116::61::Lib.decDigits X.N) [] lo (wR _) (b7y 2) hq c h h34 (N5 X hk) Ht Hl r w).mono λx s ⟨q,q'⟩=>⟨yd,q'⟩|false=>have hq:q41 [o8 X tv lv]=some [.string ⟨⟨(111::102::102::115::101::116::61::Lib.decDigits X.N)⟩⟩,.string ⟨⟨(97::108::105::103::110::61::Lib.decDigits (2^a))⟩⟩]:=yT;exact(d3G NN _ _ _ X tv lv a b hA hB ha hb (111::102::102::115::101::116::61::Lib.decDigits X.N) (97::108::105::103::110::61::Lib.decDigits (2^a)) lo la (b7y 2) hq c h h34 (N5 X hk) Ht Hl r w).mono λx s ⟨q,q'⟩=>⟨by rw[q,Q9 hk (by unfold a0s;rw[hA,hB,hal];show m9 (m9 (P9 b) (a1p X.N)) (a7W a al)=_;unfold a1p a7W;rw[hz,hy];simp only[P6,v8,wq,wO])],q'⟩
theorem l12 (X tv lv K)(hK:K<=20)(hk:w6 X.op=K)(F:PlainF K X)(hN:X.N<18446744073709551616)(c h)(h34:∀hh,(∀b,b<c->hh.get b=h.get b)->∃z:List Nat->List Nat,∀r w,go (j0 s7 3 34 [o8 X tv lv]) ⟨c+1,hh,r,w⟩=some (.ret (.bool true),⟨c+1,hh,z r,w⟩))(H:InsAt c h X (o8 X tv lv))(Ht:C0 c h tv (A7 X.types))(Hl:C0 c h lv (A7 X.labels))(r w):d8 (go (N1 i7 NN (j0 s7 3) (o8 X tv lv)) ⟨c,h,r,w⟩) λx s=>x=.ret (.string ⟨⟨W8 X⟩⟩)/\∀i,i<c->s.h.get i=h.get i:=by match K,hk,F with|0,hk,F=>exact e2v X tv lv hk F hN c h h34 H Ht Hl r w|1,hk,F=>exact e0Y X tv lv hk F hN c h h34 H Ht Hl r w|2,hk,F=>exact e2Q X tv lv hk F hN c h h34 H Ht Hl r w|3,hk,F=>exact e2X X tv lv hk F hN c h h34 H Ht Hl r w|4,hk,F=>exact e0d X tv lv hk F hN c h h34 H Ht Hl r w|5,hk,F=>exact e1x X tv lv hk F hN c h h34 H Ht Hl r w|6,hk,F=>exact e1S X tv lv hk F hN c h h34 H Ht Hl r w|7,hk,F=>exact e0y X tv lv hk F hN c h h34 H Ht Hl r w|8,hk,F=>exact e2m X tv lv hk F hN c h h34 H Ht Hl r w|9,hk,F=>exact e2s X tv lv hk F hN c h h34 H Ht Hl r w|10,hk,F=>exact d5W X tv lv hk F hN c h h34 H Ht Hl r w|11,hk,F=>exact d8W X tv lv hk F hN c h h34 H Ht Hl r w|12,hk,F=>exact d5d X tv lv hk F hN c h h34 H Ht Hl r w|13,hk,F=>exact d4E X tv lv hk F hN c h h34 H Ht Hl r w|14,hk,F=>exact d7g X tv lv hk F hN c h h34 H Ht Hl r w|15,hk,F=>exact d8f X tv lv hk F hN c h h34 H Ht Hl r w|16,hk,F=>exact d8H X tv lv hk F hN c h h34 H Ht Hl r w|17,hk,F=>exact d5J X tv lv hk F hN c h h34 H Ht Hl r w|18,hk,F=>exact d9d X tv lv hk F hN c h h34 H Ht Hl r w|19,hk,F=>exact d7M X tv lv hk F hN c h h34 H Ht Hl r w|20,hk,F=>exact d5L X tv lv hk F hN c h h34 H Ht Hl r w|k+21,hk,F=>omega
theorem e7y:B6 Tryz.prog tab (A2 mL) 12 (XI b6U):=c9r L7 Tryz.func12 zw rfl λX x y c hp H e=>by
 have H0:=H;obtain⟨⟨tv,lv,rfl,Ht,Hl⟩,h3,h4⟩:=H0;unfold b6U at e;have h34:=λhh hb=>cI3 (sh:=s7) (f:=34) (q:=λX=>some (.bool (a1o X))) zw H (y:=.bool (a1o X)) rfl hh hb;cases hpl:a1o X with
  |false=>rw[hpl]at e h34;cases e;refine⟨rfl,4,λr w=>?_⟩;rw[O0 (q:=N1) (N:=NN) zw 3];exact e2R NN _ X tv lv c hp h34 Ht Hl r w|true=>
   rw[hpl]at e h34;obtain⟨h1,rfl⟩:=a1B e;rw[wB]at h1;refine⟨rfl,4,λr w=>?_⟩;rw[O0 (q:=N1) (N:=NN) zw 3];have hp2:pK (w6 X.op) X=true:=by unfold a1o at hpl;cases hk:B3 X.op with|true=>rw[hk]at hpl;exact hpl|false=>rw[hk]at hpl;cases hpl
   exact l12 X tv lv _ (b1R _) rfl (c7u hp2) h1 c hp h34 H Ht Hl r w
end Go.Proofs.YtmomonnlmbljoaaGreatDoor.S
end
section
namespace Go.Proofs.YtmomonnlmbljoaaGreatDoor.S
open Go.V Go.RowKit Go.Shelf Go.Proofs
variable {mL:Int}
attribute [local congr] m0 l9 n8 n9 q9 m8 s9
end Go.Proofs.YtmomonnlmbljoaaGreatDoor.S
end
section
namespace Go.Proofs.YtmomonnlmbljoaaGreatDoor
open Go.V Go.RowKit Go.Shelf Go.Proofs
variable {mL:Int}
noncomputable def d8M (r:Option (Value×S)):Option Value:=match r with|some x=>some x.1|none=>none
theorem d0x {r v}(h:d8M r=some v):∃s,r=some (v,s):=by cases r with|none=>cases h|some x=>obtain⟨u,s⟩:=x;cases h;exact⟨s,rfl⟩
theorem c5F (mL):d8M (a4P Tryz.prog tab a4D 400 11 [] (Go.V.a1e (A2 mL)))=some (.bool true):=zw
theorem b7Y {mL}:a4F Tryz.prog (A2 mL) 11 [] (.bool true):=by obtain⟨s,h⟩:=d0x (c5F mL);exact c1c J6 D7 a4o a0O a3u Tryz.func11 zw rfl rfl rfl h
end Go.Proofs.YtmomonnlmbljoaaGreatDoor
end
section
namespace Go.Proofs.YtmomonnlmbljoaaGreatDoor.S
open Go.V Go.RowKit Go.Shelf Go.Proofs
variable {mL:Int}
noncomputable def alX (bs:List Value):Option Value:=match bs with|[]=>some (.bool true)|_=>none
theorem e7x:B6 Tryz.prog tab (A2 mL) 11 (λbs=>M.lift (alX bs)):=a1V λbs v h=>by unfold alX at h;split at h;cases h;exact⟨rfl,rfl,b7Y⟩;cases h
noncomputable def e8:Nat->Option (List Value->M Value):=(C8 (C8 e7 12 (XI b6U)) 11 (λbs=>M.lift (alX bs)))
noncomputable def s8:a0g:=(I3 (I3 s7 12 (XI b6U)) 11 (λbs=>M.lift (alX bs)))
end Go.Proofs.YtmomonnlmbljoaaGreatDoor.S
end
section
namespace Go.Proofs.YtmomonnlmbljoaaGreatDoor.S
open Go.V Go.RowKit Go.Shelf Go.Proofs
variable {mL:Int}
attribute [local congr] m0 l9 n8 n9 q9 m8 s9
abbrev IR:Type:=Ins×Value×Value
def a2M (x:IR):List Value:=[.int .i64 x.1.op,.int .i64 x.1.A,.int .i64 x.1.B,.int .u64 (.ofNat x.1.N),.int .i64 x.1.k,.int .i64 x.1.v,.int .i64 x.1.i,x.2.1,x.2.2]
structure InsL (c:Nat) (h:Trie VObj) (v:Value) (Xs:List IR):Prop where
 sl:∃ a e,v=.slice a Xs.length e∧(Xs=[]∨∃ b o g cs cur ro,a=some ⟨b,o,some g⟩∧e=9∧b<c∧h.get b=some (.cells cs cur ro)∧∀ i x,Xs[i]?=some x→j8 g (z7 cs (o+i * 9)) 9=some (a2M x))
 each:∀ x∈Xs,C0 c h x.2.1 (A7 x.1.types)∧C0 c h x.2.2 (A7 x.1.labels)
theorem InsL.len {c h v Xs}(H:InsL c h v Xs):b7e v=M.pure (.int .i64 (.ofNat Xs.length)):=by obtain⟨a,e,rfl,_⟩:=H.sl;exact I5 _ _ _
theorem InsL.mono {c c' h h' v Xs}(H:InsL c h v Xs)(hc:c<=c')(hh:∀b,b<c->h'.get b=h.get b):InsL c' h' v Xs:=by obtain⟨⟨a,e,rfl,hor⟩,each⟩:=H;refine⟨⟨a,e,rfl,?_⟩,λx hx=>⟨(each x hx).1.mono hc hh,(each x hx).2.mono hc hh⟩⟩;rcases hor with h0|⟨b,o,g,cs,cur,ro,h1,h2,h3,h4,h5⟩;exact Or.inl h0;exact Or.inr ⟨b,o,g,cs,cur,ro,h1,h2,zy,by rw[hh b h3];exact h4,h5⟩
theorem b6P {γ c b o g n}{h:Trie VObj}{cs cur ro vs}(hb:b<c)(h1:h.get b=some (.cells cs cur ro))(h2:j8 g (z7 cs o) n=some vs)(k:List Value->Option γ):ldS (Nat.blt b c) (h.get b) o g n k=k vs:=by rw[A5 hb,h1,O4,h2];rfl
theorem InsL.read {c c' h h' v Xs}(H:InsL c h v Xs)(hc:c<=c')(hh:∀b,b<c->h'.get b=h.get b){i x}(hx:Xs[i]?=some x):∃b p p0 p7 p8,b<c/\a6i 9 v (.int .i64 (.ofNat i))=M.pure p/\xFA 0 p=M.pure p0/\xFA 7 p=M.pure p7/\xFA 8 p=M.pure p8/\(∀r w,go (a7Q 9 p) ⟨c',h',r,w⟩=some (o8 x.1 x.2.1 x.2.2,⟨c',h',b::r,w⟩))/\(∀r w,go (a6S p0) ⟨c',h',r,w⟩=some (.int .i64 x.1.op,⟨c',h',b::r,w⟩))/\(∀r w,go (a6S p7) ⟨c',h',r,w⟩=some (x.2.1,⟨c',h',b::r,w⟩))/\(∀r w,go (a6S p8) ⟨c',h',r,w⟩=some (x.2.2,⟨c',h',b::r,w⟩)):=by
 obtain⟨⟨a,e,rfl,hor⟩,each⟩:=H;have hi:i<Xs.length:=(xQ.1 hx).1;rcases hor with rfl|⟨b,o,g,cs,cur,ro,rfl,rfl,h1,h2,h3⟩;cases hx;have ht:=h3 i x hx;have hg:=hh b h1;have hb:b<c':=zy;have one:∀(j:Nat) (y:Value),(a2M x)[j]?=some y->j8 g (z7 cs (o+i*9+j)) 1=some [y]:=by intro j y hy;rw[a2i];exact a1D ht j y hy
 refine⟨b,.pointer (some ⟨b,o+i*9,some g⟩),.pointer (some ⟨b,o+i*9+0,some g⟩),.pointer (some ⟨b,o+i*9+7,some g⟩),.pointer (some ⟨b,o+i*9+8,some g⟩),h1,a0d 9 i Xs.length .i64 b o (some g) hi zv,a3z _ _ _ _,a3z _ _ _ _,a3z _ _ _ _,λr w=>?_,λr w=>?_,λr w=>?_,λr w=>?_⟩;rw[a2W,b6P hb (hg.trans h2) ht];rfl;rw[a1f,b6P hb (hg.trans h2) (one 0 _ rfl)];rfl;rw[a1f,b6P hb (hg.trans h2) (one 7 _ rfl)];rfl;rw[a1f,b6P hb (hg.trans h2) (one 8 _ rfl)];rfl
def b4D (x:IR):Bool:=!(Nat.blt 20 x.1.labels.length)&& !(Nat.blt 20 x.1.types.length)
noncomputable def a8N (Xs:List IR):Bool:=A9 b4D Xs
theorem c7m (x t):a8N (x::t)=(b4D x&&a8N t):=I7 _ _ _
theorem c8K (N call c h v Xs)(H:InsL c h v Xs)(hl:Xs.length<4294967296):∀(t) (i k) (g0 g1 g2 g3 g4 g5 g6 g7 g8 g9 g10 g11 g12 g13 g14 g15 g16 g17 g18 g19 g21 g22) (r w),Xs.drop i=t->t.length<k->d8 (go (I9 (d1F i7 N call v) k [g0,g1,g2,g3,g4,g5,g6,g7,g8,g9,g10,g11,g12,g13,g14,g15,g16,g17,g18,g19,.bool false,g21,g22,.int .i64 (.ofNat i)]) ⟨c,h,r,w⟩) λx s=>s.c=c/\s.h=h/\((a8N t=true/\x.1=.exit 0)\/(a8N t=false/\x.1=.ret/\r6 x.2 20=.bool false)):=by
 intro t;have hlen:=H.len;induction t with
  |nil=>
   intro i k g0 g1 g2 g3 g4 g5 g6 g7 g8 g9 g10 g11 g12 g13 g14 g15 g16 g17 g18 g19 g21 g22 r w hd hk;obtain⟨k,rfl⟩:∃m,k=m+1:=⟨k-1,zb⟩;have hi:Nat.blt i Xs.length=false:=by have:Xs.length<=i:=yz;cases q:Nat.blt i Xs.length with|false=>rfl|true=>have:i<Xs.length:=yb;omega
   simp(maxSteps:=9999999) (disch:=try exact dx)only[M6,b0P,hlen,a0A,hi,E9,I1,B2,N2,m7,J9,K7,B5,Y8,V.e3y,x9,A6];exact d8.done ⟨rfl,rfl,Or.inl ⟨rfl,rfl⟩⟩|cons x t ih=>
   intro i k g0 g1 g2 g3 g4 g5 g6 g7 g8 g9 g10 g11 g12 g13 g14 g15 g16 g17 g18 g19 g21 g22 r w hd hk;obtain⟨k,rfl⟩:∃m,k=m+1:=⟨k-1,zb⟩;have hil:i<Xs.length:=zQ;have hi:Nat.blt i Xs.length=true:=A5 hil;have hq:Xs[i]?=some x:=zM;have hd':Xs.drop (i+1)=t:=zP;have hinc:=B8 i zy;obtain⟨b,p,p0,p7,p8,_,e1,e2,e3,e4,e5,e6,e7,e8⟩:=H.read (xR c) (λ_ _=>rfl) hq;obtain⟨Ht,Hl⟩:=H.each x (we hq);have ht:=Ht.len;have hll:=Hl.len;rw[xF]at ht hll;have e:a8N (x::t)=(b4D x&&a8N t):=c7m x t;have eb:b4D x=(!(Nat.blt 20 x.1.labels.length)&& !(Nat.blt 20 x.1.types.length)):=rfl;cases q1:Nat.blt 20 x.1.labels.length with
    |true=>rw[q1]at eb;simp(maxSteps:=9999999) (disch:=try exact dx)only[gD,M6,b0P,hlen,a0A,e1,e4,e8,hll,q1,hinc,A3,F8,a0Q,x9,B7,A6];exact d8.done ⟨rfl,rfl,Or.inr ⟨by rw[e,eb];rfl,rfl,rfl⟩⟩|false=>
     cases q2:Nat.blt 20 x.1.types.length with
      |true=>rw[q1,q2]at eb;simp(maxSteps:=9999999) (disch:=try exact dx)only[gD,M6,b0P,hlen,a0A,e1,e3,e4,e7,e8,ht,hll,q1,q2,hinc,A3,E2,a0Q,x9,B7,A6];exact d8.done ⟨rfl,rfl,Or.inr ⟨by rw[e,eb];rfl,rfl,rfl⟩⟩|false=>
       rw[q1,q2]at eb;simp(maxSteps:=9999999) (disch:=try exact dx)only[gD,M6,b0P,hlen,a0A,e1,e3,e4,e7,e8,ht,hll,q1,q2,hinc,A3,E2,x9,B7,A6];have e':a8N (x::t)=a8N t:=by rw[e,eb];rfl
       rw[e'];exact ih (i+1) k _ _ _ _ _ _ _ _ _ _ _ _ _ _ _ _ _ _ _ _ _ _ _ _ hd' zb
noncomputable def c4l (Xs:List IR):Bool:=!(Nat.blt 60 Xs.length)&&a8N Xs
theorem t10 (N)(hN:100<N)(call c h v Xs)(H:InsL c h v Xs)(r w):d8 (go (b7N i7 N call v) ⟨c,h,r,w⟩) λx s=>x=.ret (.bool (c4l Xs))/\s.c=c/\s.h=h:=by
 have hlen:=H.len;have e:c4l Xs=(!(Nat.blt 60 Xs.length)&&a8N Xs):=rfl;cases q:Nat.blt 60 Xs.length with
  |true=>simp(maxSteps:=9999999) (disch:=try exact dx)only[d8P,hlen,a0A,q,E9,I1,a4Z,N2,o9,B5,V.e3y,B7];exact d8.done ⟨by rw[e,q];rfl,rfl,rfl⟩|false=>
   have hl:Xs.length<=60:=by rcases wK 60 Xs.length with p|p;rw[A5 p]at q;cases q;exact p
   simp(maxSteps:=9999999) (disch:=try exact dx)only[d8P,hlen,a0A,q,E9,I1,a4Z,B4,m7,B5,V.e3y,B7];refine d8.bindS (c8K N call c h v Xs H zy Xs 0 N _ _ _ _ _ _ _ _ _ _ _ _ _ _ _ _ _ _ _ _ _ _ r w rfl zy) λx s hq=>?_;obtain⟨x1,x2⟩:=x;obtain⟨c',h',r',w'⟩:=s;obtain⟨rfl,rfl,⟨e1,rfl⟩|⟨e1,rfl,e2⟩⟩:=hq;simp(maxSteps:=9999999) (disch:=try exact dx)only[N2,a7E,a0q,Y8];exact d8.done ⟨by rw[e,q,e1];rfl,rfl,rfl⟩;simp only at e2;simp(maxSteps:=9999999) (disch:=try exact dx)only[N2,a0Q,e2];exact d8.done ⟨by rw[e,q,e1];rfl,rfl,rfl⟩
end Go.Proofs.YtmomonnlmbljoaaGreatDoor.S
end
section
noncomputable section
namespace Go.V
open Go.RowKit (Below)
section
variable {P:Program}{T:Tab}{w:World}{rows:a0E}
def a2I (locs:List (Nat×Nat)):KM:=λb g=>if g=0 then(match locs[b]? with|some p=>some ⟨p.1,0,p.2,0,false⟩|none=>none)else none
theorem a0T {locs b g l}(h:a2I locs b g=some l):∃p,locs[b]?=some p/\g=0/\l=⟨p.1,0,p.2,0,false⟩:=by unfold a2I at h;grind
theorem a4Y {locs b p}(h:locs[b]?=some p):a2I locs b 0=some ⟨p.1,0,p.2,0,false⟩:=by unfold a2I;rw[wT rfl,h]
end
end Go.V
end
section
namespace Go.Proofs.YtmomonnlmbljoaaGreatDoor.S
open Go.ChangeShapes Go.WideShapes Go.ChangeAt Go.RowKit
theorem d9D {α:Type}{cs:List α}(h:cs.length=9):∃a0 a1 a2 a3 a4 a5 a6 a7 a8,cs=[a0,a1,a2,a3,a4,a5,a6,a7,a8]:=by match cs,h with|[a0,a1,a2,a3,a4,a5,a6,a7,a8],_=>exact⟨a0,a1,a2,a3,a4,a5,a6,a7,a8,rfl⟩
theorem d9I {α:Type}{cs:List α}(h:cs.length=7):∃a0 a1 a2 a3 a4 a5 a6,cs=[a0,a1,a2,a3,a4,a5,a6]:=by match cs,h with|[a0,a1,a2,a3,a4,a5,a6],_=>exact⟨a0,a1,a2,a3,a4,a5,a6,rfl⟩
theorem d1U {α:Type}{cs:List α}(h:cs.length=3):∃a0 a1 a2,cs=[a0,a1,a2]:=by match cs,h with|[a0,a1,a2],_=>exact⟨a0,a1,a2,rfl⟩
theorem c4c {H}{enc:TypeId×Value->H}{W sp fuel cs x}(h:DataW.trod enc Tryz.prog W 0 sp true fuel 26 cs=some x):∃k v i,cs=[.int .i64 k,.int .i64 v,.int .i64 i]/\(Lit.int .i64 i).wf=true:=by obtain⟨xs,n,_,_,hl,hlen,hf⟩:=DataW.trod_struct Tryz.underlying26 h;obtain⟨c0,c1,c2,rfl⟩:=d1U (hl.trans zw);obtain⟨y0,y1,y2,rfl⟩:=d1U (hlen.trans zw);have k3:Tryz.prog.cellsOf 3=1:=zw;have k24:Tryz.prog.cellsOf 24=1:=zw;have f0:DataW.trod enc Tryz.prog W 0 sp true n 3 (([c0,c1,c2].drop 0).take (Tryz.prog.cellsOf 3))=some y0:=hf 0 _ rfl;have f1:DataW.trod enc Tryz.prog W 0 sp true n 24 (([c0,c1,c2].drop 1).take (Tryz.prog.cellsOf 24))=some y1:=hf 1 _ rfl;have f2:DataW.trod enc Tryz.prog W 0 sp true n 3 (([c0,c1,c2].drop 2).take (Tryz.prog.cellsOf 3))=some y2:=hf 2 _ rfl;rw[k3]at f0 f2;rw[k24]at f1;obtain⟨k,e0,_,_⟩:=vC Tryz.underlying3 f0;obtain⟨v,e1,_,_⟩:=vC Tryz.underlying24 f1;obtain⟨i,e2,_,w2⟩:=vC Tryz.underlying3 f2;simp at e0 e1 e2;exact⟨k,v,i,by rw[e0,e1,e2],w2⟩
def b6G (W:World)(v:Value)(l:List Int):Prop:=(v=.slice none 0 0/\l=[])\/∃(a:Addr) (cap:Nat) (zs:List Int),v=.slice (some a) l.length cap/\l.length<=cap/\a.spot=none/\a.block<W.heap.size/\l.length<=zs.length/\l=zs.take l.length/\zs.length=cap/\∀i,i<zs.length->W.cell? (a.add i)=some (.int .i64 (zs.getD i 0))
theorem b4m {H enc W fuel cs x}(h:DataW.trod enc Tryz.prog W 0 (λ_=>true) true fuel 30 cs=some x):∃(op A B N k v i:Int) (tv lv:Value) (n:Nat) (x1 x2:DataW H×List MemPlace),cs=[.int .i64 op,.int .i64 A,.int .i64 B,.int .u64 N,.int .i64 k,.int .i64 v,.int .i64 i,tv,lv]/\(Lit.int .u64 N).wf=true/\(Lit.int .i64 i).wf=true/\DataW.trod enc Tryz.prog W 0 (λ_=>true) true n 27 [tv]=some x1/\DataW.trod enc Tryz.prog W 0 (λ_=>true) true n 28 [lv]=some x2:=by obtain⟨xs,n,_,_,hl,hlen,hf⟩:=DataW.trod_struct Tryz.underlying30 h;obtain⟨c0,c1,c2,c3,c4,c5,c6,c7,c8,rfl⟩:=d9D (hl.trans zw);obtain⟨y0,y1,y2,y3,y4,y5,y6,rfl⟩:=d9I (hlen.trans zw);have k3:Tryz.prog.cellsOf 3=1:=zw;have k22:Tryz.prog.cellsOf 22=1:=zw;have k23:Tryz.prog.cellsOf 23=1:=zw;have k26:Tryz.prog.cellsOf 26=3:=zw;have k27:Tryz.prog.cellsOf 27=1:=zw;have k28:Tryz.prog.cellsOf 28=1:=zw;have f0:DataW.trod enc Tryz.prog W 0 (λ_=>true) true n 22 (([c0,c1,c2,c3,c4,c5,c6,c7,c8].drop 0).take (Tryz.prog.cellsOf 22))=some y0:=hf 0 _ rfl;have f1:DataW.trod enc Tryz.prog W 0 (λ_=>true) true n 3 (([c0,c1,c2,c3,c4,c5,c6,c7,c8].drop 1).take (Tryz.prog.cellsOf 3))=some y1:=hf 1 _ rfl;have f2:DataW.trod enc Tryz.prog W 0 (λ_=>true) true n 3 (([c0,c1,c2,c3,c4,c5,c6,c7,c8].drop 2).take (Tryz.prog.cellsOf 3))=some y2:=hf 2 _ rfl;have f3:DataW.trod enc Tryz.prog W 0 (λ_=>true) true n 23 (([c0,c1,c2,c3,c4,c5,c6,c7,c8].drop 3).take (Tryz.prog.cellsOf 23))=some y3:=hf 3 _ rfl;have f4:DataW.trod enc Tryz.prog W 0 (λ_=>true) true n 26 (([c0,c1,c2,c3,c4,c5,c6,c7,c8].drop 4).take (Tryz.prog.cellsOf 26))=some y4:=hf 4 _ rfl;have f5:DataW.trod enc Tryz.prog W 0 (λ_=>true) true n 27 (([c0,c1,c2,c3,c4,c5,c6,c7,c8].drop 7).take (Tryz.prog.cellsOf 27))=some y5:=hf 5 _ rfl;have f6:DataW.trod enc Tryz.prog W 0 (λ_=>true) true n 28 (([c0,c1,c2,c3,c4,c5,c6,c7,c8].drop 8).take (Tryz.prog.cellsOf 28))=some y6:=hf 6 _ rfl;rw[k22]at f0;rw[k3]at f1 f2;rw[k23]at f3;rw[k26]at f4;rw[k27]at f5;rw[k28]at f6;obtain⟨op,e0,_,_⟩:=vC Tryz.underlying22 f0;obtain⟨A,e1,_,_⟩:=vC Tryz.underlying3 f1;obtain⟨B,e2,_,_⟩:=vC Tryz.underlying3 f2;obtain⟨N,e3,_,w3⟩:=vC Tryz.underlying23 f3;obtain⟨k,v,i,e4,w4⟩:=c4c f4;simp at e0 e1 e2 e3 e4;exact⟨op,A,B,N,k,v,i,c7,c8,n,y5,y6,by rw[e0,e1,e2,e3,e4.1,e4.2.1,e4.2.2],w3,w4,f5,f6⟩
theorem b6b {H}{enc:TypeId×Value->H}{W fuel v x t e}(ht:Tryz.prog.underlying t=some (.slice e))(he:Tryz.prog.underlying e=some (.int .i64))(hc:Tryz.prog.cellsOf e=1)(hok:∀a len cap,v=.slice (some a) len cap->a.spot=none/\a.block<W.heap.size)(h:DataW.trod enc Tryz.prog W 0 (λ_=>true) true fuel t [v]=some x):∃l,b6G W v l:=by
 rcases open_ints ht he hc h with⟨e0,_⟩|⟨a,len,cap,zs,e0,_,h1,h2,h3,_,h4,_⟩;exact⟨[],Or.inl ⟨zg,rfl⟩⟩;have h3':zs.length=cap:=by simpa using h3
 have hl:(zs.take len).length=len:=by rw[vV];omega
 obtain⟨hs,hb⟩:=hok a len cap zg;exact⟨zs.take len,Or.inr ⟨a,cap,zs,by rw[hl];simpa using e0,zy,hs,hb,zy,by rw[hl],h3',h4⟩⟩
theorem b5C {W t e v}(ht:Tryz.prog.underlying t=some (.slice e))(h:Cell.okWide Tryz.prog W .any 0 t v):∀a len cap,v=.slice (some a) len cap->a.spot=none/\a.block<W.heap.size:=by
 intro a len cap e0;subst e0;have h1:Cell.ok Tryz.prog W .any 0 t (.slice (some a) len cap):=by unfold Cell.okWide at h;rw[ht]at h;exact h
 unfold Cell.ok at h1;rw[ht]at h1;obtain⟨_,_,_,hs,row,cells,hsh,_⟩:=h1;refine⟨hs,?_⟩;rcases wK a.block W.heap.size with q|q;exact q;unfold World.shape? at hsh;rw[uD q]at hsh;cases hsh
end Go.Proofs.YtmomonnlmbljoaaGreatDoor.S
end
section
namespace Go.Proofs.YtmomonnlmbljoaaGreatDoor.S
open Go.V Go.RowKit Go.Shelf Go.Proofs
variable {mL:Int}
theorem b5F:∀l,j8 0 (l.map λx=>(x,0)) l.length=some l:=by intro l;induction l with|nil=>rfl|cons x l ih=>show(match Nat.ble 0 0 with|true=>(match j8 0 (l.map λx=>(x,0)) l.length with|some vs=>some (x::vs)|none=>none)|false=>none)=_;rw[ih]
theorem c0e {W v l}(h0:0<W.heap.size)(H:b6G W v l)(rows)(j:Nat)(hj:rows[j]?=some (A7 l)):∃(tv:Value) (p:Nat×Nat),p.1<W.heap.size/\(∀(off) (x),(A7 l)[off]?=some x->W.cell? ⟨p.1,p.2+off,none⟩=some x)/\(∀locs,locs[j]?=some p->VR (a2I locs) v tv)/\C0 (Go.V.a1e rows).c (Go.V.a1e rows).h tv (A7 l):=by
 rcases H with⟨rfl,rfl⟩|⟨a,cap,zs,rfl,h1,h2,h3,h4,h5,h6,h7⟩;exact⟨.slice none 0 0,(0,0),h0,λoff x h=>zl,λ_ _=>VR.plain rfl,⟨none,0,rfl,Or.inl rfl⟩⟩;have hlen:(A7 l).length=l.length:=by unfold A7;rw[xF]
 refine⟨.slice (some ⟨j,0,some 0⟩) l.length 1,(a.block,a.off),h3,λoff x h=>?_,λlocs hl=>?_,⟨some ⟨j,0,some 0⟩,1,by rw[hlen],Or.inr ⟨j,0,0,(A7 l).map λx=>(x,0),0,true,rfl,rfl,?_,?_,?_⟩⟩⟩;have hoff:off<l.length:=by rw[<-hlen];exact(xQ.1 h).1
 have e:=h7 off zy;obtain⟨ab,ao,asp⟩:=a;cases h2;show W.cell? ⟨ab,ao+off,none⟩=some x;rw[show(⟨ab,ao,none⟩:Addr).add off=⟨ab,ao+off,none⟩ by simp[Addr.add]]at e;rw[e];have hx:l[off]?=some (zs.getD off 0):=by rw[h5,vY,wT hoff,xP zy];simp[List.getD,xP (show off<zs.length by omega)]
 unfold A7 at h;rw[wc,hx]at h;exact h;exact VR.slice (a4Y hl) (xR _) zv h1 (Or.inr h2) (Or.inr ⟨rfl,zu,λh=>zl⟩);show j<j9 rows;rw[y9];exact(xQ.1 hj).1;rw[S4,hj];rw[J7];exact b5F _
theorem d6t {W base v}(h:Value.okWide Tryz.prog W .any base 30 v):∃cs,v=.agg cs/\(∀tv,cs[7]?=some tv->Cell.okWide Tryz.prog W .any base 27 tv)/\∀lv,cs[8]?=some lv->Cell.okWide Tryz.prog W .any base 28 lv:=by unfold Value.okWide at h;rw[Tryz.underlying30]at h;obtain⟨cs,rfl,_,ts,hts,_,hc⟩:=h;have e:ts=[22,3,3,23,3,24,3,27,28]:=(vQ ((show Tryz.prog.cellTypes Tryz.prog.depth 30=some [22,3,3,23,3,24,3,27,28] by kernel_rfl).symm.trans hts)).symm;subst e;refine⟨cs,rfl,λtv ht=>?_,λlv hl=>?_⟩;obtain⟨u,hu,hk⟩:=hc 7 tv ht;cases hu;exact hk;obtain⟨u,hu,hk⟩:=hc 8 lv hl;cases hu;exact hk
theorem c7K {N}(h:(Lit.int .u64 N).wf=true):∃n,N=.ofNat n/\n<18446744073709551616:=by
 have h':(0:Int)<=N/\N<=18446744073709551615:=by simp[Lit.wf,IntKind.min,IntKind.max,IntKind.signed,IntKind.bits]at h;omega
 exact⟨N.toNat,zo,zy⟩
end Go.Proofs.YtmomonnlmbljoaaGreatDoor.S
end
section
noncomputable section
namespace Go.V
open Go.RowKit (Below)
section
variable {P:Program}{T:Tab}{w:World}{rows:a0E}
theorem c5Z {R}(hR:∀k,w.heap.size<=k->R k)(locs)(hlen:locs.length=rows.length)(hlt:∀p∈locs,p.1<w.heap.size/\R p.1)(hcell:∀(b:Nat) (p) (l),locs[b]?=some p->rows[b]?=some l->∀(off) (v),l[off]?=some v->∃v',w.cell? ⟨p.1,p.2+off,none⟩=some v'/\VR (a2I locs) v' v):Sim w.heap.size ⟨w,R⟩ (a2I locs) (a1e rows).h w:=by
 have hcs:∀b cs cur ro,(a1e rows).h.get b=some (.cells cs cur ro)->∃l,rows[b]?=some l/\cs=l.map (λx=>(x,0))/\cur=0/\ro=true:=by intro b cs cur ro h;rw[S4]at h;grind
 refine⟨⟨xR _,hR⟩,uX _ _,?_,?_,?_,?_,?_,?_,?_,?_,?_,?_,λb g l h _=>by grind[a0T]⟩;intro b g l h;obtain⟨p,h1,_,rfl⟩:=a0T h;grind;intro b g l h;obtain⟨p,h1,_,rfl⟩:=a0T h;have hb:b<rows.length:=by rw[<-hlen];grind
 rw[S4,xP hb];simp_all;intro b g l h ho;obtain⟨_,_,_,rfl⟩:=a0T h;cases ho;intro b g l b' g' l' h _ _ ho;obtain⟨_,_,_,rfl⟩:=a0T h;cases ho;intro b g l g' l' h h';obtain⟨p,h1,_,rfl⟩:=a0T h;obtain⟨p',h1',_,rfl⟩:=a0T h';rw[h1]at h1';simp_all;intro b g l cs cur ro h ho;obtain⟨_,_,_,rfl⟩:=a0T h;cases ho;intro b cs cur ro h;obtain⟨l,h1,rfl,rfl,rfl⟩:=hcs b cs cur ro h;have hb:b<locs.length:=by rw[hlen];grind
 refine⟨λg l' q=>?_,λg hg=>?_,λc hc=>?_⟩;obtain⟨_,_,rfl,rfl⟩:=a0T q;simp_all;obtain rfl:g=0:=tG.1 hg;simp_all[a4Y];grind;intro b cs cur ro g l h hk off v st hv hst hlo;obtain⟨l',h1,rfl,rfl,rfl⟩:=hcs b cs cur ro h;obtain⟨p,h2,rfl,rfl⟩:=a0T hk;rw[wc]at hv;grind;grind[S4];grind[S4]
theorem b4C {vs}(hT:TabOk P T)(hM:P.follows .mixedOrders=true)(locs)(hlen:locs.length=rows.length)(hlt:∀p∈locs,p.1<w.heap.size)(hcell:∀(b:Nat) (p) (l),locs[b]?=some p->rows[b]?=some l->∀(off) (v),l[off]?=some v->∃v',w.cell? ⟨p.1,p.2+off,none⟩=some v'/\VR (a2I locs) v' v)(hng:∀g,g<T.ng->locs[g]?=some (g,0))(hL:LaidV vs w){ext}(hE:a0z P T vs ext){N}{sh}(hs:a5S P T ext N sh){n f}{fn}{c}{args' args}{v}{s'}(hPf:P.funcs[f]?=some fn)(hnum:(fn.name== "runtime.NumGoroutine")=false)(hb:fn.body=some c)(ha:VRL (a2I locs) args' args)(hv:C1 8 v=true)(h:j0 sh n f args (a1e rows)=some (.ret v,s')):Calls P f args'.toArray w λe w'=>e=.returned v/\Below w.heap.size w w':=by have hE':=hE w.heap.size ⟨w,λ_=>True⟩ hL hL.size;rcases a8B hT hM hE' hs n f args (a1e rows) (.ret v) s' w (a2I locs) args' h (c5Z (λ_ _=>trivial) locs hlen (λp hp=>⟨hlt p hp,trivial⟩) hcell) (λg hg=>⟨_,a4Y (hng g hg),rfl,rfl,rfl⟩) (λi hi _=>by rw[S4];have:rows.length<=i:=yY;rw[ww this]) ha with⟨v1,v',w',K',_,q1,_⟩|⟨_,q⟩;rw[J5 hPf hnum hb]at q1;cases q1;refine q.mono λe w' hq=>?_;obtain⟨v',K',e1,st,r⟩:=hq;rw[e1,r.eq_of_noAddr 8 hv];exact⟨rfl,st.sim.below⟩
end
end Go.V
end
section
namespace Go.Proofs.YtmomonnlmbljoaaGreatDoor.S
open Go.ChangeShapes Go.WideShapes Go.ChangeAt Go.RowKit Go.V
theorem d0w {W base t e v}(ht:Tryz.prog.underlying t=some (.slice e))(h:Value.okWide Tryz.prog W .any base t v):v=.slice none 0 0\/∃a len cap,v=.slice (some a) len cap/\a.spot=none/\a.block<W.heap.size:=by
 have h1:Cell.okWide Tryz.prog W .any base t v:=by unfold Value.okWide at h;rw[ht]at h;exact h
 have h2:Cell.ok Tryz.prog W .any base t v:=by unfold Cell.okWide at h1;rw[ht]at h1;cases v<;>exact h1
 cases v with
  |slice o len cap=>
   cases o with
    |none=>
     unfold Cell.ok at h2;rw[ht]at h2;cases len with
      |zero=>cases cap with|zero=>exact Or.inl rfl|succ n=>exact(h2:False).elim
      |succ n=>exact(h2:False).elim
    |some a=>unfold Cell.ok at h2;rw[ht]at h2;obtain⟨_,_,_,hs,row,cells,hsh,_⟩:=h2;refine Or.inr ⟨a,len,cap,rfl,hs,?_⟩;rcases wK a.block W.heap.size with q|q;exact q;unfold World.shape? at hsh;rw[uD q]at hsh;cases hsh
  |_=>unfold Cell.ok at h2;rw[ht]at h2;exact(h2:False).elim
def a9K (W:World)(v:Value)(l:List Int):Prop:=(v=.slice none 0 0/\l=[])\/(∃a,v=.slice (some a) 0 0/\l=[])\/∃(a:Addr) (cap:Nat),v=.slice (some a) l.length (cap+1)/\l.length<=cap+1/\a.spot=none/\a.block<W.heap.size/\∀(i:Nat) (z:Int),l[i]?=some z->W.cell? ⟨a.block,a.off+i,none⟩=some (.int .i64 z)
theorem b3Y {H}{enc:TypeId×Value->H}{W fuel v x t e}(ht:Tryz.prog.underlying t=some (.slice e))(he:Tryz.prog.underlying e=some (.int .i64))(hc:Tryz.prog.cellsOf e=1)(h:DataW.trod enc Tryz.prog W 0 (λ_=>true) true fuel t [v]=some x):∃l,a9K W v l:=by
 rcases open_ints ht he hc h with⟨e0,_⟩|⟨a,len,cap,zs,e0,_,h1,h2,h3,_,h4,_⟩;exact⟨[],Or.inl ⟨zg,rfl⟩⟩;have h3':zs.length=cap:=by simpa using h3
 have e0':v=.slice (some a) len cap:=zg;cases cap with
  |zero=>obtain rfl:len=0:=zy;exact⟨[],Or.inr (Or.inl ⟨a,e0',rfl⟩)⟩|succ cap=>
   have hl:(zs.take len).length=len:=by rw[vV];omega
   have c0:=h4 0 zy;have hs:a.spot=none:=by simpa[Addr.add]using World.cell?_spot c0
   have hb:a.block<W.heap.size:=by simpa[Addr.add]using World.block_lt_of_cell? _ _ c0
   refine⟨zs.take len,Or.inr (Or.inr ⟨a,cap,by rw[hl];exact e0',zy,hs,hb,λi z hz=>?_⟩)⟩;have hi:i<len:=by rw[<-hl];exact(xQ.1 hz).1
   have e:=h4 i zy;obtain⟨ab,ao,asp⟩:=a;cases hs;rw[show(⟨ab,ao,none⟩:Addr).add i=⟨ab,ao+i,none⟩ by simp[Addr.add]]at e;show W.cell? ⟨ab,ao+i,none⟩=_;rw[e];rw[vY,wT hi]at hz;simp[List.getD,hz]
def b1f (j:Nat):Value->Value|.slice (some _) n _=>.slice (some ⟨j,0,some 0⟩) n 1|_=>.slice none 0 0
def pOf:Value->Nat×Nat|.slice (some a) _ (_+1)=>(a.block,a.off)|_=>(0,0)
theorem c1Q {W v l}(h0:0<W.heap.size)(H:a9K W v l):(pOf v).1<W.heap.size:=by rcases H with⟨rfl,rfl⟩|⟨a,rfl,rfl⟩|⟨a,cap,rfl,_,_,h3,_⟩;exact h0;exact h0;exact h3
theorem b3X {W v l}(H:a9K W v l)(off x)(hx:(A7 l)[off]?=some x):W.cell? ⟨(pOf v).1,(pOf v).2+off,none⟩=some x/\plain x=true:=by rcases H with⟨rfl,rfl⟩|⟨a,rfl,rfl⟩|⟨a,cap,rfl,_,_,h3,h4⟩;cases hx;cases hx;unfold A7 at hx;rw[wc]at hx;cases q:l[off]? with|none=>rw[q]at hx;cases hx|some z=>rw[q]at hx;cases hx;exact⟨h4 off z q,rfl⟩
theorem b8T {W v l}(H:a9K W v l){j locs}(hj:locs[j]?=some (pOf v)):VR (a2I locs) v (b1f j v):=by rcases H with⟨rfl,rfl⟩|⟨a,rfl,rfl⟩|⟨a,cap,rfl,h1,h2,h3,h4⟩;exact VR.plain rfl;exact VR.slice (a4Y hj) (xR _) zv (xR _) (Or.inl rfl) (Or.inl rfl);exact VR.slice (a4Y hj) (xR _) zv h1 (Or.inr h2) (Or.inr ⟨rfl,by simp[pOf],λh=>zl⟩)
theorem b5R {W v l}(H:a9K W v l){j rows}(hj:rows[j]?=some (A7 l)):C0 (Go.V.a1e rows).c (Go.V.a1e rows).h (b1f j v) (A7 l):=by
 have hlen:(A7 l).length=l.length:=by unfold A7;rw[xF]
 rcases H with⟨rfl,rfl⟩|⟨a,rfl,rfl⟩|⟨a,cap,rfl,h1,h2,h3,h4⟩;exact⟨none,0,rfl,Or.inl rfl⟩;exact⟨some ⟨j,0,some 0⟩,1,rfl,Or.inl rfl⟩;refine⟨some ⟨j,0,some 0⟩,1,by rw[hlen];rfl,Or.inr ⟨j,0,0,(A7 l).map λx=>(x,0),0,true,rfl,rfl,?_,?_,?_⟩⟩;show j<j9 rows;rw[y9];exact(xQ.1 hj).1;rw[S4,hj];rw[J7];exact b5F _
theorem d2o {α:Type}{p:Nat->α->Prop}:∀n,(∀i,i<n->∃x,p i x)->∃l:List α,l.length=n/\∀i x,l[i]?=some x->p i x:=by
 intro n;induction n with
  |zero=>exactλ_=>⟨[],rfl,λi x h=>by simp at h⟩|succ n ih=>
   intro h;obtain⟨l,h1,h2⟩:=ih λi hi=>h i zy;obtain⟨x,hx⟩:=h n (xG n);refine⟨l++[x],by rw[xE,h1];rfl,λi y hy=>?_⟩;rcases wK i l.length with q|q;rw[wh q]at hy;exact h2 i y hy;rw[wo q]at hy;have hi:i-l.length=0:=by rcases uY (i-l.length)with r|r;exact r;rw[ww zo]at hy;cases hy
   rw[hi]at hy;cases hy;rw[show i=n by omega];exact hx
theorem b5Q {α β:Type}(f g:Nat->α->β):∀(l:List α) (k i),((l.mapIdx λi y=>[f (k+i) y,g (k+i) y]).flatten)[2*i]?=(l[i]?).map (f (k+i))/\((l.mapIdx λi y=>[f (k+i) y,g (k+i) y]).flatten)[2*i+1]?=(l[i]?).map (g (k+i)):=by intro l;induction l with|nil=>intro k i;simp|cons y l ih=>intro k i;rw[List.mapIdx_cons];cases i with|zero=>simp|succ i=>have:=ih (k+1) i;have e:∀j,k+1+j=k+(j+1):=λj=>zy;simp only[e]at this;simp only[List.flatten_cons,wO,wQ,show 2*(i+1)=2*i+1+1 by omega,vT];exact this
theorem b8Y:∀(l:List IR) (i j) (x),l[i]?=some x->j<9->(l.flatMap a2M)[i*9+j]?=(a2M x)[j]?:=by intro l;induction l with|nil=>intro i j x h;simp at h|cons y l ih=>intro i j x h hj;have h9:(a2M y).length=9:=rfl;rw[wW];cases i with|zero=>cases h;rw[vW,wt,wh zy]|succ i=>rw[wo zy,h9,show(i+1)*9+j-9=i*9+j by omega];exact ih i j x (by simpa using h) hj
theorem b9K (l:List IR):(l.flatMap a2M).length=l.length*9:=by induction l with|nil=>rfl|cons y l ih=>rw[wW,xE,ih];show 9+l.length*9=(l.length+1)*9;omega
theorem d2p:∀(l:List Value) (n),n<=l.length->j8 0 (l.map λx=>(x,0)) n=some (l.take n):=by
 intro l;induction l with
  |nil=>
   intro n h;obtain rfl:n=0:=by simpa using h
   rfl|cons x l ih=>intro n h;cases n with|zero=>rfl|succ n=>show(match Nat.ble 0 0 with|true=>(match j8 0 (l.map λx=>(x,0)) n with|some vs=>some (x::vs)|none=>none)|false=>none)=_;rw[ih n (by simpa using h)];rfl
end Go.Proofs.YtmomonnlmbljoaaGreatDoor.S
end
