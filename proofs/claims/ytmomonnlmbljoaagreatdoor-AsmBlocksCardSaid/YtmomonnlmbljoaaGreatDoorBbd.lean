import Derived.Test.YtmomonnlmbljoaaGreatDoorBak
import Derived.Test.YtmomonnlmbljoaaGreatDoorBaz
set_option maxRecDepth 1000000
set_option maxHeartbeats 4000000
set_option linter.unusedVariables false
set_option linter.unusedSimpArgs false
section
namespace Go.Proofs.YtmomonnlmbljoaaGreatDoor.S
open Go.V Go.RowKit Go.Shelf Go.Proofs
variable {mL:Int}
attribute [local congr] y7 x9 A8 A7 D5 z8 E5
theorem e0Z (N call Q8 call3 X tv lv a b)(hA:X.A=.ofNat a)(hB:X.B=.ofNat b)(ha:a<4294967296)(hb:b<4294967296)(c)(h)(h34:∀hh,(∀b,b<c->hh.get b=h.get b)->∃z:List Nat->List Nat,∀r w,go (call 34 [D6 X tv lv]) ⟨c+1,hh,r,w⟩=some (.ret (.bool true),⟨c+1,hh,z r,w⟩))(C:Calls12 N call Q8 call3 X 10)(Ht:K8 c h tv (M0 X.types))(Hl:K8 c h lv (M0 X.labels))(r w):l9 (go (Z7 o9 N call (D6 X tv lv)) ⟨c,h,r,w⟩) λx s=>x=.ret (.string ⟨⟨D7 (Y6 X.op) (a6H a b)⟩⟩)/\∀i,i<c->s.h.get i=h.get i:=by
 obtain⟨z,h34'⟩:=h34 (upd h c (.cells [(.int .i64 X.op,0),(.int .i64 X.A,0),(.int .i64 X.B,0),(.int .u64 (Int.ofNat X.N),0),(.int .i64 X.k,0),(.int .i64 X.v,0),(.int .i64 X.i,0),(tv,0),(lv,0)] 0 false)) (λb hb=>d9 zy);obtain⟨h35,h39,h36,h36',h37c,h37,h37',h38,h44,h96⟩:=C;obtain⟨ta,te,rfl,_⟩:=id Ht;obtain⟨la,le,rfl,_⟩:=id Hl;have q5:=h37 b zy;simp only[D6,hA,hB,wF]at h34';have nl:=Y2 X.op;have l1:=L8 a zy;have l2:=L8 b zy;have q1:=h37 a zy;have q2:=h37' b zy;have q3:=h37' a zy;have q4:=h37c a zy;cases hy:a.beq 0 with
  |true=>cases hz:b.beq 0 with|true=>simp(maxSteps:=9999999) (disch:=try exact dy)only[gD,a0W,a1h,a1c,D6,hA,hB,h34',h35,h39,h38,h44,h96,hy,hz,T9,H7,O3];exact l9.done ⟨by simp only[a6H,A9,b1P,hy,hz,D9,wH],λi hi=>yo⟩|false=>simp(maxSteps:=9999999) (disch:=try exact dy)only[gD,a0W,a3P,a1h,a1c,D6,hA,hB,h34',h35,h39,h36,h38,h44,h96,q1,q5,hy,hz,T9,Nat.reduceMul,ap9,H7,O3,Nat.reduceAdd];exact l9.done ⟨wu,λi hi=>yo⟩
  |false=>cases hz:b.beq 0 with|true=>simp(maxSteps:=9999999) (disch:=try exact dy)only[gD,a0W,a3P,a1h,a1c,D6,hA,hB,h34',h35,h39,h36,h38,h44,h96,q1,q5,hy,T9,Nat.reduceMul,ap9,H7,P6,Nat.reduceAdd];exact l9.done ⟨wZ,λi hi=>yo⟩|false=>simp(maxSteps:=9999999) (disch:=try exact dy)only[gD,a0W,a3P,a1h,a1c,D6,hA,hB,h34',h35,h39,h36,h38,h44,h96,q1,q5,hy,T9,Nat.reduceMul,ap9,H7,P6,Nat.reduceAdd];exact l9.done ⟨wY,λi hi=>yo⟩
end Go.Proofs.YtmomonnlmbljoaaGreatDoor.S
end
