import Derived.Test.YtmomonnlmbljoaaGreatDoorKag
import Derived.Test.YtmomonnlmbljoaaGreatDoorKav
set_option maxRecDepth 1000000
set_option maxHeartbeats 4000000
set_option linter.unusedVariables false
set_option linter.unusedSimpArgs false
namespace Go.Proofs.YtmomonnlmbljoaaGreatDoor
open Go.V Go.RowKit Go.Shelf Go.Proofs
variable {mL:Int}
namespace S
attribute [local congr] y8 x9 C8 A9 C9 A7 E8
theorem e5f (N call O7 call3 X tv lv a b)(hA:X.A=.ofNat a)(hB:X.B=.ofNat b)(ha:a<4294967296)(hb:b<4294967296)(hs:z8 (a7a X.k X.v X.i)<=30)(hk:(beqBytes (a7a X.k X.v X.i) [])=decide (X.k=0))(h14:call 14 [.agg ⟨[.int .i64 X.k,.int .i64 X.v,.int .i64 X.i]⟩]=M.pure (.ret (.string ⟨⟨a7a X.k X.v X.i⟩⟩)))(c)(h)(h34:∀hh,(∀b,b<c->hh.get b=h.get b)->∃z:List Nat->List Nat,∀r w,go (call 34 [D9 X tv lv]) ⟨c+1,hh,r,w⟩=some (.ret (.bool true),⟨c+1,hh,z r,w⟩))(C:Calls12 N call O7 call3 X 1)(Ht:K6 c h tv (M0 X.types))(Hl:K6 c h lv (M0 X.labels))(r w):l9 (go (Z7 o8 N call (D9 X tv lv)) ⟨c,h,r,w⟩) λx s=>x=.ret (.string ⟨⟨E5 (Y5 X.op) (bcase (decide (X.k=0)) [] (32::a7a X.k X.v X.i))⟩⟩)/\∀i,i<c->s.h.get i=h.get i:=by obtain⟨z,h34'⟩:=h34 (upd h c (.cells [(.int .i64 X.op,0),(.int .i64 X.A,0),(.int .i64 X.B,0),(.int .u64 (Int.ofNat X.N),0),(.int .i64 X.k,0),(.int .i64 X.v,0),(.int .i64 X.i,0),(tv,0),(lv,0)] 0 false)) (λb hb=>d9 zy);obtain⟨h35,h39,h36,h36',h37c,h37,h37',h38,h44,h96⟩:=C;obtain⟨ta,te,rfl,_⟩:=id Ht;obtain⟨la,le,rfl,_⟩:=id Hl;simp only[D9,hA,hB,wB]at h34';have nl:=Y1 X.op;have l1:=K7 a zy;have l2:=K7 b zy;have q1:=h37 a zy;have q2:=h37' b zy;have q3:=h37' a zy;have q4:=h37c a zy;cases hz:decide (X.k=0)with|true=>simp(maxSteps:=9999999) (disch:=try exact dy)only[gD,a0T,a1e,a1d,D9,hA,hB,h34',h35,h39,h38,h44,h96,h14,hk,hz,U1,O6];exact l9.done ⟨xx,λi hi=>yo⟩|false=>simp(maxSteps:=9999999) (disch:=try exact dy)only[gD,a0T,a1e,a1d,D9,hA,hB,h34',h35,h39,h38,h44,h96,h14,hk,hz,U1,Nat.reduceMul,ap9,O6,Nat.reduceAdd];exact l9.done ⟨xx,λi hi=>yo⟩
end S
end Go.Proofs.YtmomonnlmbljoaaGreatDoor
