/- AsmLines: for every instruction and every block type the law returns true, and both arguments read as before: the row, and its tied card. Conditions: those of the given row alone (the listed package variables hold what the program's text lays). The folder's other texts: an evaluator of the model's code, proved sound; the functions' plain forms; their contracts. Made short by a program (names, blanks). -/
import Derived.Test.YtmomonnlmbljoaaGreatDoorRows
import Derived.ProofKit
import Derived.OpenShut
import Derived.Handed
import Derived.HandedShaped
import Derived.Test.YtmomonnlmbljoaaGreatDoorTie
import Derived.Test.YtmomonnlmbljoaaGreatDoorCards
import Derived.LaidLaws
import Derived.Lay
import Derived.JoinedOf
import Derived.SevenTiedAt
import Derived.Test.YtmomonnlmbljoaaGreatDoorQai
import Derived.Test.YtmomonnlmbljoaaGreatDoorQap
import Derived.Test.YtmomonnlmbljoaaGreatDoorQax
section
namespace Go.Proofs.YtmomonnlmbljoaaGreatDoor
open Go.V Go.RowKit Go.Shelf Go.Proofs
set_option maxRecDepth 1000000
set_option maxHeartbeats 4000000
set_option linter.unusedVariables false
attribute [local congr] a0b Z9 a0A a0B a0M a0T a3c
variable {mL:Int}
theorem c1H:∀ l:List UInt8,beqBytes l l=true:=by
 intro l
 induction l with
 | nil=>rfl
 | cons x l ih=>
   show Bool.rec (motive:=fun _=>Bool) false (beqBytes l l) (Nat.beq x.toNat x.toNat)=true
   rw [j4]; exact ih
theorem t3 (k:Nat) (call a0D:j5) (X:Ins) (tv lv:Value) (bk bv bi:Int) (T U:List UInt8) (c:Nat) (h:Trie VObj) (h10:∀ a,call 10 [a]=b2t G8 (k + 3) a0D a) (h11:call 11 []=M.pure (.ret (.bool true)))
 (h12:X.types.length < 1000 → X.labels.length < 1000 → ∀ c' hh,c ≤ c' → (∀ b,b < c → hh.get b=h.get b) → ∃ z:List Nat → List Nat, ∀ r w,go (call 12 [H7 X tv lv]) ⟨c',hh,r,w⟩=some (.ret (.string ⟨⟨T⟩⟩),⟨c',hh,z r,w⟩))
 (h13:X.types.length < 1000 → X.labels.length < 1000 → ∀ c' hh,c ≤ c' → (∀ b,b < c → hh.get b=h.get b) → ∃ z:List Nat → List Nat, ∀ r w,go (call 13 [H7 X tv lv]) ⟨c',hh,r,w⟩=some (.ret (.string ⟨⟨T⟩⟩),⟨c',hh,z r,w⟩))
 (h14:call 14 [.agg ⟨[.int .i64 bk,.int .i64 bv,.int .i64 bi]⟩]=M.pure (.ret (.string ⟨⟨U⟩⟩))) (h15:call 15 [.agg ⟨[.int .i64 bk,.int .i64 bv,.int .i64 bi]⟩]=M.pure (.ret (.string ⟨⟨U⟩⟩)))
 (Ht:P6 c h tv (O9 X.types)) (Hl:P6 c h lv (O9 X.labels)) (r w:List Nat) :
 I6 (go (sh3 G8 (k + 3) call (H7 X tv lv) (.agg ⟨[.int .i64 bk,.int .i64 bv,.int .i64 bi]⟩)) ⟨c,h,r,w⟩) fun x s=>x=.ret (.bool true) ∧ ∀ i,i < c → s.h.get i=h.get i:=by
 obtain ⟨ta,te,rfl,_⟩:=id Ht
 obtain ⟨la,le,rfl,_⟩:=id Hl
 simp only [H7,List.length_map] at h12 h13
 cases hl:Nat.blt 20 X.labels.length with
 | true=>
   simp (config:={ maxSteps:=10000000 }) (disch:=first | assumption | omega | (simp only [Y9,Y2,Y1,Y8,Z5,Y6,Y4,X9,Y0,X8,Z4,Y7,Z0,Y5,Z6,Z7,Y3,X7,R5,T9,U2,R9,U1,R7,R8,U0,R6,S9,J2,I4,Nat.reduceMul,Nat.reduceLT,q9,C8,G7,F7,l8,D6,q8,F6,F3,Bool.not_false,Bool.not_true,Bool.and_true,Bool.true_and,Bool.and_self,r9,D5,Nat.zero_add,Nat.reduceAdd,j4,F8,Nat.reduceBEq,G9,H6,E5,j6,A8,l7,l6,l9,C9,j4,F4,G6,G5,F9,H8,H9,D7,z8,D9,w9,o8,o9,F5,D8,I7,IntKind.bits,E9,A9,o7] <;> omega) | assumption) only [sh3,c1c,b4c,c0u,b2t,b5P,b5I,b5N,b5k,b5R,b5y,b5B,H7,List.length_map,a3B,a4Z,hl,h10,h11,K4,J4,Bool.not_true,Bool.not_false,bn,un,U6,a0d,V6,a2F,K6,I8,M0,J8,a4b,a5X,U5,O5,O4,a3a,K4,J4,a3n,l_0,l_s,a7N,P5,L9,a9s,V.d9Z,a2l,a5i,a2R,U3,Q0,a6m,a7u,C9,U9,V4,a0l,R3,Q5,q9,C8,G7,D6,Bool.and_self,K8,M9,P8,V5,K7,N9,I5,I9,E8,K9,N8,O6,Q9,J6,J7,Nat.zero_add]
   exact I6.done ⟨rfl,fun i hi=>by simp (config:={ maxSteps:=10000000 }) (disch:=first | assumption | omega | (simp only [Y9,Y2,Y1,Y8,Z5,Y6,Y4,X9,Y0,X8,Z4,Y7,Z0,Y5,Z6,Z7,Y3,X7,R5,T9,U2,R9,U1,R7,R8,U0,R6,S9,J2,I4,Nat.reduceMul,Nat.reduceLT,q9,C8,G7,F7,l8,D6,q8,F6,F3,Bool.not_false,Bool.not_true,Bool.and_true,Bool.true_and,Bool.and_self,r9,D5,Nat.zero_add,Nat.reduceAdd,j4,F8,Nat.reduceBEq,G9,H6,E5,j6,A8,l7,l6,l9,C9,j4,F4,G6,G5,F9,H8,H9,D7,z8,D9,w9,o8,o9,F5,D8,I7,IntKind.bits,E9,A9,o7] <;> omega) | assumption) only [E8]⟩
 | false=>
   cases ht:Nat.blt 20 X.types.length with
   | true=>
     simp (config:={ maxSteps:=10000000 }) (disch:=first | assumption | omega | (simp only [Y9,Y2,Y1,Y8,Z5,Y6,Y4,X9,Y0,X8,Z4,Y7,Z0,Y5,Z6,Z7,Y3,X7,R5,T9,U2,R9,U1,R7,R8,U0,R6,S9,J2,I4,Nat.reduceMul,Nat.reduceLT,q9,C8,G7,F7,l8,D6,q8,F6,F3,Bool.not_false,Bool.not_true,Bool.and_true,Bool.true_and,Bool.and_self,r9,D5,Nat.zero_add,Nat.reduceAdd,j4,F8,Nat.reduceBEq,G9,H6,E5,j6,A8,l7,l6,l9,C9,j4,F4,G6,G5,F9,H8,H9,D7,z8,D9,w9,o8,o9,F5,D8,I7,IntKind.bits,E9,A9,o7] <;> omega) | assumption) only [sh3,c1c,b4c,c0u,b2t,b5P,b5I,b5N,b5k,b5R,b5y,b5B,H7,List.length_map,a3B,a4Z,hl,ht,h10,h11,K4,Bool.not_false,bn,un,U6,a0d,V6,a2F,K6,I8,M0,J8,a4b,a5X,U5,O5,O4,a3a,K4,a3n,l_0,l_s,a5o,P5,L9,a9s,V.d9Z,a2l,a5i,a2R,U3,Q0,a6m,a7u,C9,U9,V4,a0l,R3,Q5,q9,C8,G7,D6,Bool.and_self,K8,M9,P8,V5,K7,N9,I5,I9,E8,K9,N8,O6,Q9,J6,J7,Nat.zero_add]
     exact I6.done ⟨rfl,fun i hi=>by simp (config:={ maxSteps:=10000000 }) (disch:=first | assumption | omega | (simp only [Y9,Y2,Y1,Y8,Z5,Y6,Y4,X9,Y0,X8,Z4,Y7,Z0,Y5,Z6,Z7,Y3,X7,R5,T9,U2,R9,U1,R7,R8,U0,R6,S9,J2,I4,Nat.reduceMul,Nat.reduceLT,q9,C8,G7,F7,l8,D6,q8,F6,F3,Bool.not_false,Bool.not_true,Bool.and_true,Bool.true_and,Bool.and_self,r9,D5,Nat.zero_add,Nat.reduceAdd,j4,F8,Nat.reduceBEq,G9,H6,E5,j6,A8,l7,l6,l9,C9,j4,F4,G6,G5,F9,H8,H9,D7,z8,D9,w9,o8,o9,F5,D8,I7,IntKind.bits,E9,A9,o7] <;> omega) | assumption) only [E8]⟩
   | false=>
     have m1:X.labels.length < 1000:=by
      rcases Nat.lt_or_ge 20 X.labels.length with q | q
      · rw [I5 q] at hl; cases hl
      · omega
     have m2:X.types.length < 1000:=by
      rcases Nat.lt_or_ge 20 X.types.length with q | q
      · rw [I5 q] at ht; cases ht
      · omega
     have b60:Nat.blt 60 1=false:=rfl
     have b01:Nat.blt 0 1=true:=rfl
     have b11:Nat.blt 1 1=false:=rfl
     have hinc:=a7X 0 (by omega)
     obtain ⟨z12,e12⟩:=h12 m2 m1 (c + 1 + 1 + 1) (upd (upd (upd h c (.cells [(.int .i64 X.op, 0),(.int .i64 X.A, 0),(.int .i64 X.B, 0),(.int .u64 (Int.ofNat X.N), 0),(.int .i64 X.k, 0),(.int .i64 X.v, 0),(.int .i64 X.i, 0),(.slice ta X.types.length te, 0),(.slice la X.labels.length le, 0)] 0 false)) (c + 1) (.cells [(.int .i64 bk, 0),(.int .i64 bv, 0),(.int .i64 bi, 0)] 0 false)) (c + 1 + 1) (.cells [(.int .i64 X.op, 0),(.int .i64 X.A, 0),(.int .i64 X.B, 0),(.int .u64 (Int.ofNat X.N), 0),(.int .i64 X.k, 0),(.int .i64 X.v, 0),(.int .i64 X.i, 0),(.slice ta X.types.length te, 0),(.slice la X.labels.length le, 0)] 0 false)) (by omega) (fun b hb=>by simp (config:={ maxSteps:=10000000 }) (disch:=first | assumption | omega | (simp only [Y9,Y2,Y1,Y8,Z5,Y6,Y4,X9,Y0,X8,Z4,Y7,Z0,Y5,Z6,Z7,Y3,X7,R5,T9,U2,R9,U1,R7,R8,U0,R6,S9,J2,I4,Nat.reduceMul,Nat.reduceLT,q9,C8,G7,F7,l8,D6,q8,F6,F3,Bool.not_false,Bool.not_true,Bool.and_true,Bool.true_and,Bool.and_self,r9,D5,Nat.zero_add,Nat.reduceAdd,j4,F8,Nat.reduceBEq,G9,H6,E5,j6,A8,l7,l6,l9,C9,j4,F4,G6,G5,F9,H8,H9,D7,z8,D9,w9,o8,o9,F5,D8,I7,IntKind.bits,E9,A9,o7] <;> omega) | assumption) only [E8])
     obtain ⟨z13,e13⟩:=h13 m2 m1 (c + 1 + 1 + 1) (upd (upd (upd h c (.cells [(.int .i64 X.op, 0),(.int .i64 X.A, 0),(.int .i64 X.B, 0),(.int .u64 (Int.ofNat X.N), 0),(.int .i64 X.k, 0),(.int .i64 X.v, 0),(.int .i64 X.i, 0),(.slice ta X.types.length te, 0),(.slice la X.labels.length le, 0)] 0 false)) (c + 1) (.cells [(.int .i64 bk, 0),(.int .i64 bv, 0),(.int .i64 bi, 0)] 0 false)) (c + 1 + 1) (.cells [(.int .i64 X.op, 0),(.int .i64 X.A, 0),(.int .i64 X.B, 0),(.int .u64 (Int.ofNat X.N), 0),(.int .i64 X.k, 0),(.int .i64 X.v, 0),(.int .i64 X.i, 0),(.slice ta X.types.length te, 0),(.slice la X.labels.length le, 0)] 0 false)) (by omega) (fun b hb=>by simp (config:={ maxSteps:=10000000 }) (disch:=first | assumption | omega | (simp only [Y9,Y2,Y1,Y8,Z5,Y6,Y4,X9,Y0,X8,Z4,Y7,Z0,Y5,Z6,Z7,Y3,X7,R5,T9,U2,R9,U1,R7,R8,U0,R6,S9,J2,I4,Nat.reduceMul,Nat.reduceLT,q9,C8,G7,F7,l8,D6,q8,F6,F3,Bool.not_false,Bool.not_true,Bool.and_true,Bool.true_and,Bool.and_self,r9,D5,Nat.zero_add,Nat.reduceAdd,j4,F8,Nat.reduceBEq,G9,H6,E5,j6,A8,l7,l6,l9,C9,j4,F4,G6,G5,F9,H8,H9,D7,z8,D9,w9,o8,o9,F5,D8,I7,IntKind.bits,E9,A9,o7] <;> omega) | assumption) only [E8])
     simp (config:={ maxSteps:=10000000 }) (disch:=first | assumption | omega | (simp only [Y9,Y2,Y1,Y8,Z5,Y6,Y4,X9,Y0,X8,Z4,Y7,Z0,Y5,Z6,Z7,Y3,X7,R5,T9,U2,R9,U1,R7,R8,U0,R6,S9,J2,I4,Nat.reduceMul,Nat.reduceLT,q9,C8,G7,F7,l8,D6,q8,F6,F3,Bool.not_false,Bool.not_true,Bool.and_true,Bool.true_and,Bool.and_self,r9,D5,Nat.zero_add,Nat.reduceAdd,j4,F8,Nat.reduceBEq,G9,H6,E5,j6,A8,l7,l6,l9,C9,j4,F4,G6,G5,F9,H8,H9,D7,z8,D9,w9,o8,o9,F5,D8,I7,IntKind.bits,E9,A9,o7] <;> omega) | assumption) only [sh3,c1c,b4c,c0u,c5W,b2t,b5P,b5I,b5N,b5k,b5R,b5y,b5B,b60,b01,b11,hinc,e12,e13,H7,List.length_map,a3B,a4Z,hl,ht,h10,h11,h14,h15,c1H,K4,J4,j4,Bool.not_true,Bool.not_false,bn,un,U6,a0d,V6,a2F,K6,I8,M0,J8,O5,O4,A9,o7,a5g,a3a,K4,J4,a3n,l_0,l_s,a7N,a5o,P5,L9,a6z,V.d9Z,Q8,a2l,a5i,a2R,U3,c1C,Q0,a6m,a7u,C9,U9,V4,a0l,R3,Q5,q9,C8,G7,D6,Bool.and_self,K8,M9,P8,V5,K7,N9,I5,I9,E8,K9,N8,O6,Q9,J6,J7,Nat.zero_add,a0L,V8]
     exact I6.done ⟨rfl,fun i hi=>by simp (config:={ maxSteps:=10000000 }) (disch:=first | assumption | omega | (simp only [Y9,Y2,Y1,Y8,Z5,Y6,Y4,X9,Y0,X8,Z4,Y7,Z0,Y5,Z6,Z7,Y3,X7,R5,T9,U2,R9,U1,R7,R8,U0,R6,S9,J2,I4,Nat.reduceMul,Nat.reduceLT,q9,C8,G7,F7,l8,D6,q8,F6,F3,Bool.not_false,Bool.not_true,Bool.and_true,Bool.true_and,Bool.and_self,r9,D5,Nat.zero_add,Nat.reduceAdd,j4,F8,Nat.reduceBEq,G9,H6,E5,j6,A8,l7,l6,l9,C9,j4,F4,G6,G5,F9,H8,H9,D7,z8,D9,w9,o8,o9,F5,D8,I7,IntKind.bits,E9,A9,o7] <;> omega) | assumption) only [E8]⟩
end Go.Proofs.YtmomonnlmbljoaaGreatDoor
end
section
namespace Go.Proofs.YtmomonnlmbljoaaGreatDoor
open Go.V Go.Proofs
set_option maxRecDepth 1000000
noncomputable def d1i (r:Option (Value × S)):Option Value:=match r with
 | some x=>some x.1
 | none=>none
theorem c3i {r:Option (Value × S)} {v:Value} (h:d1i r=some v):∃ s,r=some (v,s):=by
 cases r with
 | none=>cases h
 | some x=>obtain ⟨u,s⟩:=x; cases h; exact ⟨s,rfl⟩
theorem c1L (mL:Int):d1i (a7l Tryz.prog Q6 a0W 400 11 [] (Go.V.a5f (W9 mL)))=some (.bool true):=by kernel_rfl
theorem b5S {mL:Int}:a7d Tryz.prog (W9 mL) 11 [] (.bool true):=by
 obtain ⟨s,h⟩:=c3i (c1L mL)
 exact b8J a2E a0O a8N a6e a9E Tryz.func11 (by kernel_rfl) rfl rfl rfl h
end Go.Proofs.YtmomonnlmbljoaaGreatDoor
end
section
namespace Go.Proofs.YtmomonnlmbljoaaGreatDoor
open Go.V Go.RowKit Go.Shelf Go.Proofs
set_option maxRecDepth 1000000
set_option linter.unusedVariables false
variable {mL:Int}
noncomputable def alX (bs:List Value):Option Value:=match bs with
 | []=>some (.bool true)
 | _=>none
theorem d8H:a0f Tryz.prog Q6 (W9 mL) 11 (fun bs=>M.lift (alX bs)):=a6q fun bs v h=>by
 unfold alX at h
 split at h
 · cases h; exact ⟨rfl,rfl,b5S⟩
 · cases h
noncomputable def e8:Nat → Option (List Value → M Value):=a0H (a0H e7 12 (XI a7i)) 11 (fun bs=>M.lift (alX bs))
noncomputable def s8:a2i:=a2h (a2h s7 12 (XI a7i)) 11 (fun bs=>M.lift (alX bs))
theorem L8:Shelf' Tryz.prog Q6 (W9 mL) NN e8 s8:=(L7.add d2F).add d8H
theorem c3K (X:Ins) (hN:X.N < 18446744073709551616):∃ T,a7i X=some (.string ⟨⟨T⟩⟩):=by
 unfold a7i
 cases a4N X with
 | true=>exact ⟨a2a X,by rw [I5 hN]; rfl⟩
 | false=>exact ⟨[],rfl⟩
theorem c1Z (X:Ins) (tv lv:Value) (bk bv bi:Int) (hN:X.N < 18446744073709551616) (i1:-9223372036854775808 ≤ bi) (i2:bi ≤ 9223372036854775807) (c:Nat) (h:Trie VObj) (Ht:P6 c h tv (O9 X.types)) (Hl:P6 c h lv (O9 X.labels)) (r w:List Nat) :
 I6 (go (J9 s8 3 3 [H7 X tv lv,.agg ⟨[.int .i64 bk,.int .i64 bv,.int .i64 bi]⟩]) ⟨c,h,r,w⟩) fun x s=>x=.ret (.bool true) ∧ ∀ i,i < c → s.h.get i=h.get i:=by
 obtain ⟨T,hT⟩:=c3K X hN
 obtain ⟨k,hk⟩:∃ k,NN=k + 3:=⟨NN - 3,by decide⟩
 rw [a9y (q:=sh3) (N:=NN) (by kernel_rfl) 2,hk]
 have hx:∀ f,(s8.get f=some (arX (XI a7i))) → X.types.length < 1000 → X.labels.length < 1000 → ∀ c' hh,c ≤ c' → (∀ b,b < c → hh.get b=h.get b) → ∃ z:List Nat → List Nat, ∀ r w,go (J9 s8 2 f [H7 X tv lv]) ⟨c',hh,r,w⟩=some (.ret (.string ⟨⟨T⟩⟩),⟨c',hh,z r,w⟩):=by
  intro f hf h1 h2 c' hh hc hb
  obtain ⟨z,hz⟩:=b8g (q:=a7i) (X:=X) (x:=H7 X tv lv) ⟨⟨tv,lv,rfl,Ht,Hl⟩,h1,h2⟩ hc hb hT
  exact ⟨z,fun r w=>b5q hf 1 (hz r w)⟩
 refine t3 k _ (J9 s8 1) X tv lv bk bv bi T (a5J bk bv bi) c h (fun a=>?_) ?_ (hx 12 (by kernel_rfl)) (hx 13 (by kernel_rfl)) ?_ ?_ Ht Hl r w
 · rw [← hk]; exact a3g (q:=b2t) (N:=NN) (by kernel_rfl) 1 a
 · exact a5P s8 1 11 [] (g:=alX) (by kernel_rfl) rfl
 · exact b1L (q:=a7Z) (by kernel_rfl) 1 (b1G bk bv bi i1 i2)
 · exact b1L (q:=a7Z) (by kernel_rfl) 1 (b1G bk bv bi i1 i2)
end Go.Proofs.YtmomonnlmbljoaaGreatDoor
end
section
noncomputable section
namespace Go.V
open Go.RowKit (Below)
section
variable {P:Program} {T:Tab} {w:World} {rows:a4i}
def a9j (locs:List (Nat × Nat)):KM:=fun b g=>if g=0 then (match locs[b]? with | some p=>some ⟨p.1, 0,p.2, 0,false⟩ | none=>none) else none
theorem a5y {locs:List (Nat × Nat)} {b g:Nat} {l:Loc} (h:a9j locs b g=some l):∃ p,locs[b]?=some p ∧ g=0 ∧ l=⟨p.1, 0,p.2, 0,false⟩:=by
 unfold a9j at h
 split at h
 · rename_i hg
   split at h
   · rename_i p hp; cases h; exact ⟨p,hp,hg,rfl⟩
   · cases h
 · cases h
theorem b2o {locs:List (Nat × Nat)} {b:Nat} {p:Nat × Nat} (h:locs[b]?=some p):a9j locs b 0=some ⟨p.1, 0,p.2, 0,false⟩:=by
 unfold a9j
 rw [if_pos rfl,h]
theorem c3X {R:Nat → Prop} (hR:∀ k,w.heap.size ≤ k → R k) (locs:List (Nat × Nat)) (hlen:locs.length=rows.length) (hlt:∀ p ∈ locs,p.1 < w.heap.size ∧ R p.1)
 (hcell:∀ (b:Nat) (p:Nat × Nat) (l:List Value),locs[b]?=some p → rows[b]?=some l → ∀ (off:Nat) (v:Value),l[off]?=some v → w.cell? ⟨p.1,p.2 + off,none⟩=some v) (hp:∀ l ∈ rows, ∀ v ∈ l,plain v=true):Sim w.heap.size ⟨w,R⟩ (a9j locs) (a5f rows).h w:=by
 have hcs:∀ b cs cur ro,(a5f rows).h.get b=some (.cells cs cur ro) → ∃ l,rows[b]?=some l ∧ cs=l.map (fun x=>(x, 0)) ∧ cur=0 ∧ ro=true:=by
  intro b cs cur ro h
  rw [a4c] at h
  cases q:rows[b]? with
  | none=>rw [q] at h; cases h
  | some l=>rw [q] at h; cases h; exact ⟨l,rfl,rfl,rfl,rfl⟩
 refine ⟨⟨Nat.le_refl _,hR⟩,Below.refl _ _, ?_, ?_, ?_, ?_, ?_, ?_, ?_, ?_, ?_, ?_,fun b g l h _=>by obtain ⟨_,_,e,_⟩:=a5y h; exact e⟩
 · intro b g l h
   obtain ⟨p,h1,_,rfl⟩:=a5y h
   exact hlt p (List.mem_of_getElem? h1)
 · intro b g l h
   obtain ⟨p,h1,_,rfl⟩:=a5y h
   have hb:b < rows.length:=by rw [← hlen]; exact (List.getElem?_eq_some_iff.1 h1).1
   rw [a4c,List.getElem?_eq_getElem hb]
   exact ⟨_,rfl⟩
 · intro b g l h ho
   obtain ⟨_,_,_,rfl⟩:=a5y h
   cases ho
 · intro b g l b' g' l' h _ _ ho
   obtain ⟨_,_,_,rfl⟩:=a5y h
   cases ho
 · intro b g l g' l' h h'
   obtain ⟨p,h1,_,rfl⟩:=a5y h
   obtain ⟨p',h1',_,rfl⟩:=a5y h'
   rw [h1] at h1'
   cases h1'
   exact ⟨rfl,fun _=>rfl⟩
 · intro b g l cs cur ro h ho
   obtain ⟨_,_,_,rfl⟩:=a5y h
   cases ho
 · intro b cs cur ro h
   obtain ⟨l,h1,rfl,rfl,rfl⟩:=hcs b cs cur ro h
   have hb:b < locs.length:=by rw [hlen]; exact (List.getElem?_eq_some_iff.1 h1).1
   refine ⟨fun g l' q=>?_,fun g hg=>?_,fun c hc=>?_⟩
   · obtain ⟨_,_,rfl,rfl⟩:=a5y q
     exact ⟨Nat.le_refl _,fun e=>by cases e⟩
   · obtain rfl:g=0:=Nat.le_zero.1 hg
     exact ⟨_,b2o (List.getElem?_eq_getElem hb)⟩
   · obtain ⟨x,_,rfl⟩:=List.mem_map.1 hc
     exact Nat.le_refl _
 · intro b cs cur ro g l h hk off v st hv hst hlo
   obtain ⟨l',h1,rfl,rfl,rfl⟩:=hcs b cs cur ro h
   obtain ⟨p,h2,rfl,rfl⟩:=a5y hk
   rw [List.getElem?_map] at hv
   cases q:l'[off]? with
   | none=>rw [q] at hv; cases hv
   | some x=>
     rw [q] at hv
     cases hv
     refine ⟨v, ?_,.plain (hp l' (List.mem_of_getElem? h1) v (List.mem_of_getElem? q))⟩
     show w.cell? ⟨p.1,p.2 + (off - 0),none⟩=some v
     rw [Nat.sub_zero]
     exact hcell b p l' h2 h1 off v q
 · intro b es h
   rw [a4c] at h
   cases q:rows[b]? with
   | none=>rw [q] at h; cases h
   | some l=>rw [q] at h; cases h
 · intro b x pos h
   rw [a4c] at h
   cases q:rows[b]? with
   | none=>rw [q] at h; cases h
   | some l=>rw [q] at h; cases h
theorem b4X {vs:a4i} (hT:TabOk P T) (hM:P.follows .mixedOrders=true) (locs:List (Nat × Nat)) (hlen:locs.length=rows.length) (hlt:∀ p ∈ locs,p.1 < w.heap.size)
 (hcell:∀ (b:Nat) (p:Nat × Nat) (l:List Value),locs[b]?=some p → rows[b]?=some l → ∀ (off:Nat) (v:Value),l[off]?=some v → w.cell? ⟨p.1,p.2 + off,none⟩=some v) (hp:∀ l ∈ rows, ∀ v ∈ l,plain v=true)
 (hng:∀ g,g < T.ng → locs[g]?=some (g, 0)) (hL:LaidV vs w)
 {ext:Nat → Option (List Value → M Value)} (hE:a4P P T vs ext) {N:Nat} {sh:a2i} (hs:a7O P T ext N sh) {n f:Nat} {fn:Func} {c:Code} {args' args:List Value} {v:Value} {s':S}
 (hPf:P.funcs[f]?=some fn) (hnum:(fn.name == "runtime.NumGoroutine")=false) (hb:fn.body=some c)
 (ha:VRL (a9j locs) args' args) (hv:a0y 8 v=true) (h:J9 sh n f args (a5f rows)=some (.ret v,s')) :
 Calls P f args'.toArray w fun e w'=>e=.returned v ∧ Below w.heap.size w w':=by
 have hE':=hE w.heap.size ⟨w,fun _=>True⟩ hL hL.size
 rcases a9l hT hM hE' hs n f args (a5f rows) (.ret v) s' w (a9j locs) args' h (c3X (fun _ _=>trivial) locs hlen (fun p hp=>⟨hlt p hp,trivial⟩) hcell hp) (fun g hg=>⟨_,b2o (hng g hg),rfl,rfl,rfl⟩) (fun i hi _=>by
  rw [a4c]
  have:rows.length ≤ i:=by have:=hi; unfold a5f at this; rw [a0m] at this; exact this
  rw [List.getElem?_eq_none this]) ha with ⟨v1,v',w',K',_,q1,_⟩ | ⟨_,q⟩
 · rw [a2d hPf hnum hb] at q1; cases q1
 · refine q.mono fun e w' hq=>?_
   obtain ⟨v',K',e1,st,r⟩:=hq
   rw [e1,r.eq_of_noAddr 8 hv]
   exact ⟨rfl,st.sim.below⟩
end
end Go.V
end
section
namespace Go.Proofs.YtmomonnlmbljoaaGreatDoor
open Go.ChangeShapes Go.WideShapes Go.ChangeAt Go.RowKit
set_option maxRecDepth 100000
theorem d1Z {α:Type} {cs:List α} (h:cs.length=9):∃ a0 a1 a2 a3 a4 a5 a6 a7 a8,cs=[a0,a1,a2,a3,a4,a5,a6,a7,a8]:=by
 match cs,h with
 | [a0,a1,a2,a3,a4,a5,a6,a7,a8],_=>exact ⟨a0,a1,a2,a3,a4,a5,a6,a7,a8,rfl⟩
theorem d5Z {α:Type} {cs:List α} (h:cs.length=7):∃ a0 a1 a2 a3 a4 a5 a6,cs=[a0,a1,a2,a3,a4,a5,a6]:=by
 match cs,h with
 | [a0,a1,a2,a3,a4,a5,a6],_=>exact ⟨a0,a1,a2,a3,a4,a5,a6,rfl⟩
theorem c5o {α:Type} {cs:List α} (h:cs.length=3):∃ a0 a1 a2,cs=[a0,a1,a2]:=by
 match cs,h with
 | [a0,a1,a2],_=>exact ⟨a0,a1,a2,rfl⟩
theorem b2W {H:Type} {enc:TypeId × Value → H} {W:World} {sp:Nat → Bool} {fuel:Nat} {cs:List Value} {x:DataW H × List MemPlace} (h:DataW.trod enc Tryz.prog W 0 sp true fuel 26 cs=some x) :
 ∃ k v i:Int,cs=[.int .i64 k,.int .i64 v,.int .i64 i] ∧ (Lit.int .i64 i).wf=true:=by
 obtain ⟨xs,n,_,_,hl,hlen,hf⟩:=DataW.trod_struct Tryz.underlying26 h
 obtain ⟨c0,c1,c2,rfl⟩:=c5o (hl.trans (by kernel_rfl))
 obtain ⟨y0,y1,y2,rfl⟩:=c5o (hlen.trans (by kernel_rfl))
 have k3:Tryz.prog.cellsOf 3=1:=by kernel_rfl
 have k24:Tryz.prog.cellsOf 24=1:=by kernel_rfl
 have f0:DataW.trod enc Tryz.prog W 0 sp true n 3 (([c0,c1,c2].drop 0).take (Tryz.prog.cellsOf 3))=some y0:=hf 0 _ rfl
 have f1:DataW.trod enc Tryz.prog W 0 sp true n 24 (([c0,c1,c2].drop 1).take (Tryz.prog.cellsOf 24))=some y1:=hf 1 _ rfl
 have f2:DataW.trod enc Tryz.prog W 0 sp true n 3 (([c0,c1,c2].drop 2).take (Tryz.prog.cellsOf 3))=some y2:=hf 2 _ rfl
 rw [k3] at f0 f2
 rw [k24] at f1
 obtain ⟨k,e0,_,_⟩:=DataW.trod_int Tryz.underlying3 f0
 obtain ⟨v,e1,_,_⟩:=DataW.trod_int Tryz.underlying24 f1
 obtain ⟨i,e2,_,w2⟩:=DataW.trod_int Tryz.underlying3 f2
 simp at e0 e1 e2
 exact ⟨k,v,i,by rw [e0,e1,e2],w2⟩
def c4O (W:World) (v:Value) (l:List Int):Prop:=(v=.slice none 0 0 ∧ l=[]) ∨ ∃ (a:Addr) (cap:Nat) (zs:List Int),v=.slice (some a) l.length cap ∧ l.length ≤ cap ∧ a.spot=none ∧ a.block < W.heap.size ∧ l.length ≤ zs.length ∧ l=zs.take l.length ∧ zs.length=cap ∧ ∀ i,i < zs.length → W.cell? (a.add i)=some (.int .i64 (zs.getD i 0))
theorem c0q {H:Type} {enc:TypeId × Value → H} {W:World} {fuel:Nat} {cs:List Value} {x:DataW H × List MemPlace} (h:DataW.trod enc Tryz.prog W 0 (fun _=>true) true fuel 30 cs=some x) :
 ∃ (op A B N k v i:Int) (tv lv:Value) (n:Nat) (x1 x2:DataW H × List MemPlace),cs=[.int .i64 op,.int .i64 A,.int .i64 B,.int .u64 N,.int .i64 k,.int .i64 v,.int .i64 i,tv,lv] ∧ (Lit.int .u64 N).wf=true ∧ (Lit.int .i64 i).wf=true ∧
   DataW.trod enc Tryz.prog W 0 (fun _=>true) true n 27 [tv]=some x1 ∧ DataW.trod enc Tryz.prog W 0 (fun _=>true) true n 28 [lv]=some x2:=by
 obtain ⟨xs,n,_,_,hl,hlen,hf⟩:=DataW.trod_struct Tryz.underlying30 h
 obtain ⟨c0,c1,c2,c3,c4,c5,c6,c7,c8,rfl⟩:=d1Z (hl.trans (by kernel_rfl))
 obtain ⟨y0,y1,y2,y3,y4,y5,y6,rfl⟩:=d5Z (hlen.trans (by kernel_rfl))
 have k3:Tryz.prog.cellsOf 3=1:=by kernel_rfl
 have k22:Tryz.prog.cellsOf 22=1:=by kernel_rfl
 have k23:Tryz.prog.cellsOf 23=1:=by kernel_rfl
 have k26:Tryz.prog.cellsOf 26=3:=by kernel_rfl
 have k27:Tryz.prog.cellsOf 27=1:=by kernel_rfl
 have k28:Tryz.prog.cellsOf 28=1:=by kernel_rfl
 have f0:DataW.trod enc Tryz.prog W 0 (fun _=>true) true n 22 (([c0,c1,c2,c3,c4,c5,c6,c7,c8].drop 0).take (Tryz.prog.cellsOf 22))=some y0:=hf 0 _ rfl
 have f1:DataW.trod enc Tryz.prog W 0 (fun _=>true) true n 3 (([c0,c1,c2,c3,c4,c5,c6,c7,c8].drop 1).take (Tryz.prog.cellsOf 3))=some y1:=hf 1 _ rfl
 have f2:DataW.trod enc Tryz.prog W 0 (fun _=>true) true n 3 (([c0,c1,c2,c3,c4,c5,c6,c7,c8].drop 2).take (Tryz.prog.cellsOf 3))=some y2:=hf 2 _ rfl
 have f3:DataW.trod enc Tryz.prog W 0 (fun _=>true) true n 23 (([c0,c1,c2,c3,c4,c5,c6,c7,c8].drop 3).take (Tryz.prog.cellsOf 23))=some y3:=hf 3 _ rfl
 have f4:DataW.trod enc Tryz.prog W 0 (fun _=>true) true n 26 (([c0,c1,c2,c3,c4,c5,c6,c7,c8].drop 4).take (Tryz.prog.cellsOf 26))=some y4:=hf 4 _ rfl
 have f5:DataW.trod enc Tryz.prog W 0 (fun _=>true) true n 27 (([c0,c1,c2,c3,c4,c5,c6,c7,c8].drop 7).take (Tryz.prog.cellsOf 27))=some y5:=hf 5 _ rfl
 have f6:DataW.trod enc Tryz.prog W 0 (fun _=>true) true n 28 (([c0,c1,c2,c3,c4,c5,c6,c7,c8].drop 8).take (Tryz.prog.cellsOf 28))=some y6:=hf 6 _ rfl
 rw [k22] at f0
 rw [k3] at f1 f2
 rw [k23] at f3
 rw [k26] at f4
 rw [k27] at f5
 rw [k28] at f6
 obtain ⟨op,e0,_,_⟩:=DataW.trod_int Tryz.underlying22 f0
 obtain ⟨A,e1,_,_⟩:=DataW.trod_int Tryz.underlying3 f1
 obtain ⟨B,e2,_,_⟩:=DataW.trod_int Tryz.underlying3 f2
 obtain ⟨N,e3,_,w3⟩:=DataW.trod_int Tryz.underlying23 f3
 obtain ⟨k,v,i,e4,w4⟩:=b2W f4
 simp at e0 e1 e2 e3 e4
 exact ⟨op,A,B,N,k,v,i,c7,c8,n,y5,y6,by rw [e0,e1,e2,e3,e4.1,e4.2.1,e4.2.2],w3,w4,f5,f6⟩
theorem b4q {H:Type} {enc:TypeId × Value → H} {W:World} {fuel:Nat} {v:Value} {x:DataW H × List MemPlace} {t e:TypeId} (ht:Tryz.prog.underlying t=some (.slice e)) (he:Tryz.prog.underlying e=some (.int .i64)) (hc:Tryz.prog.cellsOf e=1)
 (hok:∀ a len cap,v=.slice (some a) len cap → a.spot=none ∧ a.block < W.heap.size) (h:DataW.trod enc Tryz.prog W 0 (fun _=>true) true fuel t [v]=some x):∃ l,c4O W v l:=by
 rcases open_ints ht he hc h with ⟨e0,_⟩ | ⟨a,len,cap,zs,e0,_,h1,h2,h3,_,h4,_⟩
 · exact ⟨[],Or.inl ⟨by simpa using e0,rfl⟩⟩
 · have h3':zs.length=cap:=by simpa using h3
   have hl:(zs.take len).length=len:=by rw [List.length_take]; omega
   obtain ⟨hs,hb⟩:=hok a len cap (by simpa using e0)
   exact ⟨zs.take len,Or.inr ⟨a,cap,zs,by rw [hl]; simpa using e0,by omega,hs,hb,by omega,by rw [hl],h3',h4⟩⟩
theorem b4H {W:World} {t e:TypeId} {v:Value} (ht:Tryz.prog.underlying t=some (.slice e)) (h:Cell.okWide Tryz.prog W .any 0 t v):∀ a len cap,v=.slice (some a) len cap → a.spot=none ∧ a.block < W.heap.size:=by
 intro a len cap e0
 subst e0
 have h1:Cell.ok Tryz.prog W .any 0 t (.slice (some a) len cap):=by unfold Cell.okWide at h; rw [ht] at h; exact h
 unfold Cell.ok at h1
 rw [ht] at h1
 obtain ⟨_,_,_,hs,row,cells,hsh,_⟩:=h1
 refine ⟨hs, ?_⟩
 rcases Nat.lt_or_ge a.block W.heap.size with q | q
 · exact q
 · unfold World.shape? at hsh
   rw [Array.getElem?_eq_none q] at hsh
   cases hsh
end Go.Proofs.YtmomonnlmbljoaaGreatDoor
end
section
namespace Go.Proofs.YtmomonnlmbljoaaGreatDoor
open Go.V Go.RowKit
set_option maxRecDepth 100000
theorem c1r:∀ l:List Value,a0w 0 (l.map fun x=>(x, 0)) l.length=some l:=by
 intro l
 induction l with
 | nil=>rfl
 | cons x l ih=>
   show (match Nat.ble 0 0 with | true=>(match a0w 0 (l.map fun x=>(x, 0)) l.length with | some vs=>some (x :: vs) | none=>none) | false=>none)=_
   rw [ih]
theorem b8o {W:World} {v:Value} {l:List Int} (h0:0 < W.heap.size) (H:c4O W v l) (rows:a4i) (j:Nat) (hj:rows[j]?=some (O9 l)) :
 ∃ (tv:Value) (p:Nat × Nat),p.1 < W.heap.size ∧ (∀ (off:Nat) (x:Value),(O9 l)[off]?=some x → W.cell? ⟨p.1,p.2 + off,none⟩=some x) ∧ (∀ locs:List (Nat × Nat),locs[j]?=some p → VR (a9j locs) v tv) ∧ P6 (Go.V.a5f rows).c (Go.V.a5f rows).h tv (O9 l):=by
 rcases H with ⟨rfl,rfl⟩ | ⟨a,cap,zs,rfl,h1,h2,h3,h4,h5,h6,h7⟩
 · exact ⟨.slice none 0 0,(0, 0),h0,fun off x h=>(by cases h),fun _ _=>VR.plain rfl,⟨none, 0,rfl,Or.inl rfl⟩⟩
 · have hlen:(O9 l).length=l.length:=by unfold O9; rw [List.length_map]
   refine ⟨.slice (some ⟨j, 0,some 0⟩) l.length 1,(a.block,a.off),h3,fun off x h=>?_,fun locs hl=>?_,⟨some ⟨j, 0,some 0⟩, 1,by rw [hlen],Or.inr ⟨j, 0, 0,(O9 l).map fun x=>(x, 0), 0,true,rfl,rfl, ?_, ?_, ?_⟩⟩⟩
   · have hoff:off < l.length:=by rw [← hlen]; exact (List.getElem?_eq_some_iff.1 h).1
     have e:=h7 off (by omega)
     obtain ⟨ab,ao,asp⟩:=a
     cases h2
     show W.cell? ⟨ab,ao + off,none⟩=some x
     rw [show (⟨ab,ao,none⟩:Addr).add off=⟨ab,ao + off,none⟩ by simp [Addr.add]] at e
     rw [e]
     have hx:l[off]?=some (zs.getD off 0):=by
      rw [h5,List.getElem?_take,if_pos hoff,List.getElem?_eq_getElem (by omega)]
      simp [List.getD,List.getElem?_eq_getElem (show off < zs.length by omega)]
     unfold O9 at h
     rw [List.getElem?_map,hx] at h
     exact h
   · exact VR.slice (b2o hl) (Nat.le_refl _) (by decide) h1 h2 (Or.inr ⟨rfl,by simp,fun h=>(by cases h)⟩)
   · show j < M4 rows
     rw [a0m]; exact (List.getElem?_eq_some_iff.1 hj).1
   · rw [a4c,hj]
   · rw [O6]; exact c1r _
end Go.Proofs.YtmomonnlmbljoaaGreatDoor
end
section
namespace Go.Proofs.YtmomonnlmbljoaaGreatDoor
open Go.V Go.RowKit
set_option maxRecDepth 100000
theorem c8Y {W:World} {base:Nat} {v:Value} (h:Value.okWide Tryz.prog W .any base 30 v):∃ cs:Array Value,v=.agg cs ∧ (∀ tv,cs[7]?=some tv → Cell.okWide Tryz.prog W .any base 27 tv) ∧ ∀ lv,cs[8]?=some lv → Cell.okWide Tryz.prog W .any base 28 lv:=by
 unfold Value.okWide at h
 rw [Tryz.underlying30] at h
 obtain ⟨cs,rfl,_,ts,hts,_,hc⟩:=h
 have e:ts=[22, 3, 3, 23, 3, 24, 3, 27, 28]:=(Option.some.inj ((show Tryz.prog.cellTypes Tryz.prog.depth 30=some [22, 3, 3, 23, 3, 24, 3, 27, 28] by kernel_rfl).symm.trans hts)).symm
 subst e
 refine ⟨cs,rfl,fun tv ht=>?_,fun lv hl=>?_⟩
 · obtain ⟨u,hu,hk⟩:=hc 7 tv ht
   cases hu
   exact hk
 · obtain ⟨u,hu,hk⟩:=hc 8 lv hl
   cases hu
   exact hk
theorem c6u {W:World} {base:Nat} {v:Value} (h:Value.okWide Tryz.prog W .any base 26 v):∃ cs:Array Value,v=.agg cs:=by
 unfold Value.okWide at h
 rw [Tryz.underlying26] at h
 obtain ⟨cs,rfl,_⟩:=h
 exact ⟨cs,rfl⟩
theorem c8w {N:Int} (h:(Lit.int .u64 N).wf=true):∃ n:Nat,N=.ofNat n ∧ n < 18446744073709551616:=by
 have h':(0:Int) ≤ N ∧ N ≤ 18446744073709551615:=by
  simp [Lit.wf,IntKind.min,IntKind.max,IntKind.signed,IntKind.bits] at h
  omega
 exact ⟨N.toNat,by simp; omega,by omega⟩
theorem d0u {N:Int} (h:(Lit.int .i64 N).wf=true):-9223372036854775808 ≤ N ∧ N ≤ 9223372036854775807:=by
 simp [Lit.wf,IntKind.min,IntKind.max,IntKind.signed,IntKind.bits] at h
 omega
theorem b8Z {H:Type} {enc:TypeId × Value → H} {W:World} {base:Nat} {v0 v1:Value} {d0 d1:DataW H} {p0 p1:List MemPlace} {mL:Int} (hL:LaidV (W9 mL) W) (hv0:Value.okWide Tryz.prog W .any base 30 v0) (hv1:Value.okWide Tryz.prog W .any base 26 v1)
 (h0:DataW.Trod enc Tryz.prog W 0 (fun _=>true) true 30 v0 d0 p0) (h1:DataW.Trod enc Tryz.prog W 0 (fun _=>true) true 26 v1 d1 p1) :
 Calls Tryz.prog 3 #[v0,v1] W fun e W'=>e=.returned (.bool true) ∧ Below W.heap.size W W':=by
 obtain ⟨cs,rfl,ht,hl⟩:=c8Y hv0
 obtain ⟨cs1,rfl⟩:=c6u hv1
 obtain ⟨f0,hf0⟩:=h0
 obtain ⟨f1,hf1⟩:=h1
 obtain ⟨op,A,B,N,k,v,i,tv,lv,n,x1,x2,hcs,wN,wi,t1,t2⟩:=c0q hf0
 obtain ⟨bk,bv,bi,hcs1,wbi⟩:=b2W hf1
 have ecs:cs=#[.int .i64 op,.int .i64 A,.int .i64 B,.int .u64 N,.int .i64 k,.int .i64 v,.int .i64 i,tv,lv]:=by
  obtain ⟨l⟩:=cs; exact congrArg Array.mk hcs
 have ecs1:cs1=#[.int .i64 bk,.int .i64 bv,.int .i64 bi]:=by
  obtain ⟨l⟩:=cs1; exact congrArg Array.mk hcs1
 subst ecs ecs1
 obtain ⟨N,rfl,hN⟩:=c8w wN
 obtain ⟨i1,i2⟩:=d0u wbi
 obtain ⟨lt,Ht⟩:=b4q Tryz.underlying27 Tryz.underlying24 (by kernel_rfl) (b4H Tryz.underlying27 (ht tv rfl)) t1
 obtain ⟨ll,Hl⟩:=b4q Tryz.underlying28 Tryz.underlying3 (by kernel_rfl) (b4H Tryz.underlying28 (hl lv rfl)) t2
 have hsz:0 < W.heap.size:=Nat.lt_of_lt_of_le (show 0 < (W9 mL).length from by show 0 < 7; decide) hL.size
 obtain ⟨tv',pt,q1,q2,q3,q4⟩:=b8o hsz Ht (W9 mL ++ [O9 lt,O9 ll]) 7 rfl
 obtain ⟨lv',pl,r1,r2,r3,r4⟩:=b8o hsz Hl (W9 mL ++ [O9 lt,O9 ll]) 8 rfl
 let locs:List (Nat × Nat):=[(0, 0),(1, 0),(2, 0),(3, 0),(4, 0),(5, 0),(6, 0),pt,pl]
 obtain ⟨x,s,hrun,hx,_⟩:=c1Z ⟨op,A,B,N,k,v,i,lt,ll⟩ tv' lv' bk bv bi hN i1 i2 _ _ q4 r4 [] []
 subst hx
 have hrun':J9 s8 3 3 [H7 ⟨op,A,B,N,k,v,i,lt,ll⟩ tv' lv',.agg ⟨[.int .i64 bk,.int .i64 bv,.int .i64 bi]⟩] (Go.V.a5f (W9 mL ++ [O9 lt,O9 ll]))=some (.ret (.bool true),s):=hrun
 have hb:∀ j,j < 7 → j < W.heap.size:=fun j hj=>Nat.lt_of_lt_of_le hj (show 7 ≤ W.heap.size from hL.size)
 refine b4X (vs:=W9 mL) (rows:=W9 mL ++ [O9 lt,O9 ll]) (args':=[.agg #[.int .i64 op,.int .i64 A,.int .i64 B,.int .u64 (.ofNat N),.int .i64 k,.int .i64 v,.int .i64 i,tv,lv],.agg #[.int .i64 bk,.int .i64 bv,.int .i64 bi]]) a2E a0O locs rfl ?_ ?_ ?_ ?_ hL (L8 (mL:=mL)).e (L8 (mL:=mL)).s Tryz.func3 (by kernel_rfl) rfl ?_ rfl hrun'
 · intro p hp
   simp only [locs,List.mem_cons,List.not_mem_nil,or_false] at hp
   rcases hp with rfl | rfl | rfl | rfl | rfl | rfl | rfl | rfl | rfl
   · exact hb 0 (by decide)
   · exact hb 1 (by decide)
   · exact hb 2 (by decide)
   · exact hb 3 (by decide)
   · exact hb 4 (by decide)
   · exact hb 5 (by decide)
   · exact hb 6 (by decide)
   · exact q1
   · exact r1
 · intro b p l hp hl off v hv
   have hv':=fun g hg=>hL.cell g l hg off v hv
   rcases b with _ | _ | _ | _ | _ | _ | _ | _ | _ | b
   · cases hp; rw [Nat.zero_add]; exact hv' 0 hl
   · cases hp; rw [Nat.zero_add]; exact hv' 1 hl
   · cases hp; rw [Nat.zero_add]; exact hv' 2 hl
   · cases hp; rw [Nat.zero_add]; exact hv' 3 hl
   · cases hp; rw [Nat.zero_add]; exact hv' 4 hl
   · cases hp; rw [Nat.zero_add]; exact hv' 5 hl
   · cases hp; rw [Nat.zero_add]; exact hv' 6 hl
   · cases hp; cases hl; exact q2 off v hv
   · cases hp; cases hl; exact r2 off v hv
   · cases hp
 · intro l hl v hv
   rw [List.mem_append] at hl
   rcases hl with hl | hl
   · exact a6e l hl v hv
   · rw [List.mem_cons,List.mem_singleton] at hl
     rcases hl with rfl | rfl
     · unfold O9 at hv; obtain ⟨z,_,rfl⟩:=List.mem_map.1 hv; rfl
     · unfold O9 at hv; obtain ⟨z,_,rfl⟩:=List.mem_map.1 hv; rfl
 · intro g hg
   have hg':g < 7:=hg
   rcases g with _ | _ | _ | _ | _ | _ | _ | g
   all_goals first | rfl | omega
 · refine VRL.cons (VR.agg rfl fun j x' x hx' hx=>?_) (VRL.cons (VR.agg rfl fun j x' x hx' hx=>?_) (VRL.nil _))
   · rcases j with _ | _ | _ | _ | _ | _ | _ | _ | _ | j
     · cases hx'; cases hx; exact VR.plain rfl
     · cases hx'; cases hx; exact VR.plain rfl
     · cases hx'; cases hx; exact VR.plain rfl
     · cases hx'; cases hx; exact VR.plain rfl
     · cases hx'; cases hx; exact VR.plain rfl
     · cases hx'; cases hx; exact VR.plain rfl
     · cases hx'; cases hx; exact VR.plain rfl
     · cases hx'; cases hx; exact q3 locs rfl
     · cases hx'; cases hx; exact r3 locs rfl
     · cases hx'
   · rcases j with _ | _ | _ | j
     · cases hx'; cases hx; exact VR.plain rfl
     · cases hx'; cases hx; exact VR.plain rfl
     · cases hx'; cases hx; exact VR.plain rfl
     · cases hx'
end Go.Proofs.YtmomonnlmbljoaaGreatDoor
end
section
namespace Go.Proofs.YtmomonnlmbljoaaGreatDoor
open Go.V Go.RowKit
set_option maxRecDepth 100000
theorem c3c {H:Type} {enc:TypeId × Value → H} {P:Program} {w:World} {b:Nat} {sp:Nat → Bool} {held:Bool} {n:Nat} {t e:TypeId} {k:IntKind} {fuel:Nat} {cs:List Value} {zs:List Int} {p:List MemPlace} (ht:P.underlying t=some (.array n e)) (he:P.underlying e=some (.int k)) (hc:P.cellsOf e=1) (hct:P.cellsOf t=n)
 (h:DataW.trod enc P w b sp held fuel t cs=some (.agg (zs.map fun z=>.lit (.int k z)),p)):cs=zs.map fun z=>.int k z:=by
 obtain ⟨xs,m,_,hx,hl,hlen,hf⟩:=DataW.trod_array ht h
 have hx1:zs.map (fun z=>(DataW.lit (.int k z):DataW H))=xs.map (·.1):=by
  have:=congrArg Prod.fst hx
  simpa using this
 have hzs:zs.length=n:=by have:=congrArg List.length hx1; simpa [hlen] using this
 rw [hct] at hl
 refine List.ext_getElem? fun i=>?_
 by_cases hi:i < n
 · have h1:=hf i hi
   rw [hc,Nat.mul_one,List.getElem?_eq_getElem (by omega)] at h1
   obtain ⟨z,e1,e2,_⟩:=DataW.trod_int he h1
   have e3:(xs.map (·.1))[i]?=some (DataW.lit (.int k z)):=by rw [List.getElem?_map,List.getElem?_eq_getElem (by omega),Option.map_some,e2]
   rw [← hx1,List.getElem?_map,List.getElem?_eq_getElem (by omega),Option.map_some] at e3
   have e4:zs[i]=z:=by simpa using e3
   have e5:(cs.drop i)[0]?=some (.int k z):=by
    have:=congrArg (fun l=>l[0]?) e1
    simpa [List.getElem?_take] using this
   rw [List.getElem?_drop,Nat.add_zero] at e5
   rw [e5,List.getElem?_map,List.getElem?_eq_getElem (by omega),e4]
   rfl
 · rw [List.getElem?_eq_none (by omega),List.getElem?_eq_none (by simp; omega)]
end Go.Proofs.YtmomonnlmbljoaaGreatDoor
end
section
namespace Go.Proofs.YtmomonnlmbljoaaGreatDoor
open Go.V Go.RowKit
set_option maxRecDepth 100000
theorem b0n {W:World} {name:String} {G:Nat} {T e:TypeId} {n:Nat} {k:IntKind} {zs:List Int} (hG:Tryz.prog.globalNamed name=some G) (hT:(Tryz.prog.globals[G]?).map (·.type)=some T) (ht:Tryz.prog.underlying T=some (.array n e)) (he:Tryz.prog.underlying e=some (.int k)) (hc:Tryz.prog.cellsOf e=1) (hct:Tryz.prog.cellsOf T=n)
 {g:Nat} {t:TypeId} {cs:Array Value} {fuel:Nat} {p:List MemPlace} (h1:Tryz.prog.globalNamed name=some g) (h2:(Tryz.prog.globals[g]?).map (·.type)=some t) (h3:W.var? Tryz.prog name=some cs)
 (h4:DataW.trod (fun _=>()) Tryz.prog W 0 (fun _=>true) false fuel t cs.toList=some (.agg (zs.map fun z=>.lit (.int k z)),p)):∃ ty fz,W.heap[G]?=some (.cells ⟨zs.map fun z=>.int k z⟩ ty fz):=by
 obtain rfl:G=g:=Option.some.inj (hG.symm.trans h1)
 obtain rfl:T=t:=Option.some.inj (hT.symm.trans h2)
 have hcs:=c3c ht he hc hct h4
 have ecs:cs=⟨zs.map fun z=>.int k z⟩:=by obtain ⟨l⟩:=cs; exact congrArg Array.mk hcs
 subst ecs
 unfold World.var? at h3
 rw [hG,Option.bind_some] at h3
 split at h3
 · rename_i cs' ty fz hh
   cases h3
   exact ⟨_,_,hh⟩
 · cases h3
theorem c2c {W:World} (h:laidMet Tryz.prog Rows.asmLinesRow.laid W):(∃ ty fz,W.heap[5]?=some (.cells ⟨b1k⟩ ty fz)) ∧ (∃ ty fz,W.heap[4]?=some (.cells ⟨b1r⟩ ty fz)) ∧ (∃ ty fz,W.heap[2]?=some (.cells ⟨a8X⟩ ty fz)) ∧ ∃ ty fz,W.heap[0]?=some (.cells ⟨a5x⟩ ty fz):=by
 obtain ⟨ps,hV,_⟩:=h
 obtain ⟨g1,t1,cs1,f1,p1,q1,a1,b1,c1,d1,hV,_⟩:=hV
 obtain ⟨g2,t2,cs2,f2,p2,q2,a2,b2,c2,d2,hV,_⟩:=hV
 obtain ⟨g3,t3,cs3,f3,p3,q3,a3,b3,c3,d3,hV,_⟩:=hV
 obtain ⟨g4,t4,cs4,f4,p4,q4,a4,b4,c4,d4,hV,_⟩:=hV
 obtain ⟨g5,t5,cs5,f5,p5,q5,a5,b5,c5,d5,hV,_⟩:=hV
 have x1:(Rows.laid_math_bits_deBruijn32tab:DataW Unit)=.agg ((b1k.map intOf).map fun z=>.lit (.int .u8 z)):=by kernel_rfl
 have x2:(Rows.laid_math_bits_deBruijn64tab:DataW Unit)=.agg ((b1r.map intOf).map fun z=>.lit (.int .u8 z)):=by kernel_rfl
 have x3:(Rows.laid_internal_strconv_uint64pow10:DataW Unit)=.agg ((a8X.map intOf).map fun z=>.lit (.int .u64 z)):=by kernel_rfl
 have x5:(Rows.laid_strings_asciiSpace:DataW Unit)=.agg ((a5x.map intOf).map fun z=>.lit (.int .u8 z)):=by kernel_rfl
 have y1:(b1k.map intOf).map (fun z=>Value.int .u8 z)=b1k:=by kernel_rfl
 have y2:(b1r.map intOf).map (fun z=>Value.int .u8 z)=b1r:=by kernel_rfl
 have y3:(a8X.map intOf).map (fun z=>Value.int .u64 z)=a8X:=by kernel_rfl
 have y5:(a5x.map intOf).map (fun z=>Value.int .u8 z)=a5x:=by kernel_rfl
 rw [x1] at d1
 rw [x2] at d2
 rw [x3] at d3
 rw [x5] at d5
 have z1:=b0n (G:=5) (T:=271) (by kernel_rfl) (by kernel_rfl) Tryz.underlying271 Tryz.underlying5 (by kernel_rfl) (by kernel_rfl) a1 b1 c1 d1
 have z2:=b0n (G:=4) (T:=253) (by kernel_rfl) (by kernel_rfl) Tryz.underlying253 Tryz.underlying5 (by kernel_rfl) (by kernel_rfl) a2 b2 c2 d2
 have z3:=b0n (G:=2) (T:=250) (by kernel_rfl) (by kernel_rfl) Tryz.underlying250 Tryz.underlying23 (by kernel_rfl) (by kernel_rfl) a3 b3 c3 d3
 have z5:=b0n (G:=0) (T:=219) (by kernel_rfl) (by kernel_rfl) Tryz.underlying219 Tryz.underlying5 (by kernel_rfl) (by kernel_rfl) a5 b5 c5 d5
 rw [y1] at z1
 rw [y2] at z2
 rw [y3] at z3
 rw [y5] at z5
 exact ⟨z1,z2,z3,z5⟩
end Go.Proofs.YtmomonnlmbljoaaGreatDoor
end
section
namespace Go.Proofs.YtmomonnlmbljoaaGreatDoor
open Go.V Go.RowKit
set_option maxRecDepth 100000
theorem d2g:((begin Tryz.prog (fun _ _=>0) default).world.heap[3]?).bind Obj.row?=some (#[.int .i64 0], 3):=by kernel_rfl
theorem d4i:(((begin Tryz.prog (fun _ _=>0) default).world.heap[6]?).bind Obj.row?).isSome=true:=by kernel_rfl
theorem c3z {W:World} (h:laidMet Tryz.prog Rows.asmLinesRow.laid W) (hS:W.ShapedOpen Tryz.prog):∃ mL,LaidV (W9 mL) W:=by
 obtain ⟨⟨t5,z5,h5⟩,⟨t4,z4,h4⟩,⟨t2,z2,h2⟩,⟨t0,z0,h0⟩⟩:=c2c h
 have hg:Tryz.prog.globals.size=7:=by kernel_rfl
 obtain ⟨cs,e3,hsz,hrow⟩:=hS.1 3 _ _ (by rw [hg]; decide) d2g
 obtain ⟨⟨zero6,ty6⟩,e6⟩:=Option.isSome_iff_exists.1 d4i
 obtain ⟨cs6,e6',_,_⟩:=hS.1 6 _ _ (by rw [hg]; decide) e6
 obtain ⟨ts,hts,_,hc⟩:=hrow (by kernel_rfl)
 have ets:ts=[3]:=(Option.some.inj ((show Tryz.prog.cellTypes Tryz.prog.depth 3=some [3] by kernel_rfl).symm.trans hts)).symm
 subst ets
 obtain ⟨l⟩:=cs
 have hl:l.length=1:=hsz
 obtain ⟨x,rfl⟩:∃ x,l=[x]:=by
  match l,hl with
  | [x],_=>exact ⟨x,rfl⟩
 obtain ⟨u,hu,hk⟩:=hc 0 x rfl
 cases hu
 unfold Cell.ok at hk
 rw [Tryz.underlying3] at hk
 obtain ⟨m,rfl⟩:∃ m,x=.int .i64 m:=by
  cases x with
  | int k n=>obtain ⟨rfl,_⟩:=hk; exact ⟨n,rfl⟩
  | _=>exact (hk:False).elim
 have hrows:∀ (g:Nat) (l:List Value),(W9 m)[g]?=some l → l ≠ [] → ∃ t fz,W.heap[g]?=some (.cells ⟨l⟩ t fz):=by
  intro g l hl hne
  rcases g with _ | _ | _ | _ | _ | _ | _ | g
  · cases hl; exact ⟨_,_,h0⟩
  · cases hl; exact absurd rfl hne
  · cases hl; exact ⟨_,_,h2⟩
  · cases hl; exact ⟨_,_,e3⟩
  · cases hl; exact ⟨_,_,h4⟩
  · cases hl; exact ⟨_,_,h5⟩
  · cases hl; exact absurd rfl hne
  · cases hl
 refine ⟨m, ?_,fun g l hl off v hv=>?_,hrows⟩
 · rcases Nat.lt_or_ge 6 W.heap.size with q | q
   · exact q
   · rw [Array.getElem?_eq_none q] at e6'; cases e6'
 · obtain ⟨t,fz,hh⟩:=hrows g l hl (fun e=>by rw [e] at hv; cases hv)
   simp only [World.cell?,hh]
   simpa using hv
end Go.Proofs.YtmomonnlmbljoaaGreatDoor
end
section
namespace Go
open Go.ChangeShapes
section
variable {H:Type} {enc:TypeId × Value → H}
theorem a7J {a:Assume} {C:Checked} {os:Os} {f:FuncId} {fn:Func} {s:ChangeSpec} {conds:List PathCond} {apart fresh handsOn again:Bool} {X:World → Array Value → Prop}
 (hX:∀ (w w':World) (args:Array Value),w.heap=w'.heap → X w args → X w' args)
 (own:ownKnob C.prog.godebug=none) (started:os.Started) (noInit:C.prog.inits.idxOf? f=none) (hfn:C.prog.funcs[f]?=some fn)
 (witness:∃ (w:World) (tape:Tape) (i:Input),w.os=os ∧ (w.forCall tape i).Shaped C.prog ∧ i.vars=[] ∧ Input.okWide C.prog (w.forCall tape i) .any w.heap.size f i ∧
   ((s.pre enc C.prog fn conds apart (w.forCall tape i).memory i.args ∧ X (w.forCall tape i).memory i.args) ∧ sizedMet enc C.prog fn (OpenSpec.ofChange s) apart (w.forCall tape i).memory i.args) ∧ a.holds C.prog (lone (Frame.enter C.prog f i.args .normal) [] (w.forCall tape i)))
 (contract:∀ (W:World) (base:Nat) (args:Array Value) (ds gs:List (DataW H)) (before:List MemPlace),
   (∀ (j:Nat) t v,fn.params[j]?=some t → args[j]?=some v → Value.okWide C.prog W .any base t v) →
   DataW.Whole enc C.prog fn.params.toList s.vars apart W args.toList ds gs before → X W args → W.ShapedOpen C.prog →
   Calls C.prog f args W fun e W'=>∃ v,e=.returned v ∧ s.post enc C.prog fn apart fresh handsOn again W args v W') :
 ReturnsInHanded a C os f .any (fun w args=>(s.pre enc C.prog fn conds apart w args ∧ X w args) ∧ sizedMet enc C.prog fn (OpenSpec.ofChange s) apart w args) (s.post enc C.prog fn apart fresh handsOn again):=by
 refine returnsInHanded_of_calls own started noInit witness ?_
 intro w tape i _ hsh _ hok hpre hholds
 obtain ⟨_,_,_,fn',hfn',_,_,_,_,hval⟩:=hok
 have e:fn'=fn:=Option.some.inj (hfn'.symm.trans hfn)
 subst e
 obtain ⟨⟨⟨ds,gs,before,hw,hc⟩,hx⟩,hz⟩:=hpre
 have hw':=DataW.Whole.of_heap (w':=w.forCall tape i) (by rfl) hw
 refine (contract (w.forCall tape i) w.heap.size i.args ds gs before hval hw' (hX _ _ _ (by rfl) hx) hsh).mono fun e W' ⟨v,he,hp⟩=>?_
 subst he
 exact ChangeSpec.post_blind hp
end
end Go
end
section
namespace Go.Proofs.YtmomonnlmbljoaaGreatDoor
open Go.V Go.RowKit Go.ChangeShapes Go.WideShapes Go.ChangeAt
set_option maxRecDepth 100000
theorem Tryz.own:ownKnob Tryz.prog.godebug=none:=by kernel_rfl
theorem Tryz.laidOut:laidOutB Tryz.prog=true:=by kernel_rfl
theorem c1e {H:Type} {enc:TypeId × Value → H} {W:World} {base:Nat} {args:Array Value} {ds gs:List (DataW H)} {before:List MemPlace}
 (hval0:∀ (j:Nat) t v,Tryz.f3.params[j]?=some t → args[j]?=some v → Value.okWide Tryz.prog W .any base t v)
 (hW:DataW.Whole enc Tryz.prog Tryz.f3.params.toList Rows.asmLinesSpec.vars false W args.toList ds gs before) (hX:laidMet Tryz.prog Rows.asmLinesRow.laid W) (hS:W.ShapedOpen Tryz.prog) :
 Calls Tryz.prog 3 args W fun e W'=>∃ v,e=.returned v ∧ Rows.asmLinesSpec.post enc Tryz.prog Tryz.f3 false true false false W args v W':=by
 have hval:=hval0
 have hW':=hW
 obtain ⟨p,q,hA0,hV,rfl,hfz,hnd⟩:=hW
 have hA:DataW.TrodAll enc Tryz.prog W 0 (fun _=>true) true Tryz.f3.params.toList args.toList ds p:=hA0
 rw [Tryz.params3] at hA hval
 obtain ⟨v0,v1,d0,d1,p0,p1,rfl,rfl,rfl,h0,h1⟩:=trodAll_two hA
 obtain ⟨rfl,rfl⟩:=trodVars_none hV
 obtain ⟨mL,hL⟩:=c3z hX hS
 refine (b8Z hL (hval 0 30 v0 rfl rfl) (hval 1 26 v1 rfl rfl) h0 h1).mono fun e W' ⟨he,hb⟩=>?_
 subst he
 have hlt:∀ x ∈ p0 ++ p1,x.block < W.heap.size:=fun x hx=>by simpa using hW'.lt x (by simpa using hx)
 refine ⟨_,rfl,_,_,_, [],p0 ++ p1, [],hW', ?_, ?_, ?_,hb.frame _,fun h=>by cases h⟩
 · exact trodAll_mk1 (shut_bool Tryz.underlying4 true)
 · exact trodAll_mk2 (Below.trod Tryz.laidOut (by kernel_rfl) (of_decide_eq_true (by kernel_rfl)) h0 hb (fun x hx=>hlt x (List.mem_append_left _ hx))) (Below.trod Tryz.laidOut (by kernel_rfl) (of_decide_eq_true (by kernel_rfl)) h1 hb (fun x hx=>hlt x (List.mem_append_right _ hx)))
 · rfl
end Go.Proofs.YtmomonnlmbljoaaGreatDoor
end
section
namespace Go.Proofs.YtmomonnlmbljoaaGreatDoor
open Go.V Go.RowKit Go.ChangeShapes Go.WideShapes Go.ChangeAt
set_option maxRecDepth 100000
noncomputable def c8T:Array Value:=#[.agg #[.int .i64 0,.int .i64 0,.int .i64 0,.int .u64 0,.int .i64 0,.int .i64 0,.int .i64 0,.slice none 0 0,.slice none 0 0],.agg #[.int .i64 0,.int .i64 0,.int .i64 0]]
theorem b8L (os:Os) (args:Array Value):laidMet Tryz.prog Rows.asmLinesRow.laid ((World.laidAll Tryz.prog os Rows.asmLinesRow.laid).forCall (fun _ _=>0) ⟨#[],args, []⟩).memory:=
 laidMet_laidAll args (by kernel_rfl) (by kernel_rfl)
theorem b4h (os:Os) (args:Array Value):((World.laidAll Tryz.prog os Rows.asmLinesRow.laid).forCall (fun _ _=>0) ⟨#[],args, []⟩).Shaped Tryz.prog:=
 World.shaped_of_ZipB (by kernel_rfl) (by kernel_rfl)
theorem b7u (os:Os) (started:os.Started) (H:Type) (enc:TypeId × Value → H) :
 ReturnsInHanded {} Tryz.checked os 3 .any (fun w args=>(Rows.asmLinesSpec.pre enc Tryz.prog Tryz.f3 [] false w args ∧ laidMet Tryz.prog Rows.asmLinesRow.laid w) ∧ sizedMet enc Tryz.prog Tryz.f3 (OpenSpec.ofChange Rows.asmLinesSpec) false w args)
  (Rows.asmLinesSpec.post enc Tryz.prog Tryz.f3 false true false false):=by
 refine a7J (C:=Tryz.checked) (X:=fun w _=>laidMet Tryz.prog Rows.asmLinesRow.laid w) (fun _ _ _ hh h=>h.of_heap hh) Tryz.own started (by kernel_rfl) Tryz.func3
  (ChangeSpec.witness_shaped (enc:=enc) (C:=Tryz.checked) (os:=os) (X:=fun w _=>laidMet Tryz.prog Rows.asmLinesRow.laid w) false (World.laidAll Tryz.prog os Rows.asmLinesRow.laid) c8T 8 (World.laidAll_os _ _ _) (b4h os _) (by kernel_rfl) (by kernel_rfl) (by kernel_rfl) (b8L os _)) ?_
 intro W base args ds gs before hval hW hX hS
 exact c1e hval hW hX hS
theorem c0Z:Rows.AsmLinesSaid:=
 OpenClaim.holds_of_wide 3 Tryz.f3 rfl rfl rfl rfl rfl rfl rfl ⟨rfl,rfl,rfl,rfl,rfl⟩ rfl rfl rfl rfl rfl (by kernel_rfl) Tryz.func3 (by kernel_rfl)
  (of_decide_eq_true (by kernel_rfl)) (by unfold Func.isWrapper; rw [if_neg (of_decide_eq_false (by kernel_rfl))]; exact ⟨rfl,rfl⟩)
  (fun os started H enc _=>b7u os started H enc)
theorem asmLines_holds:Rows.AsmLinesCardSaid:=
 Claim7.holds_tied_plain_at .later [] [.data,.data,.data,.listed,.data] true (true, "43c62acaed52c2d1c7c766b14af42ec8a2d4ae97c4011508ed185cefeb6592bb") false
  c0Z (fun _ h=>by cases h) (by kernel_rfl) (fun _ h=>by cases h) asmLines_row_tie rfl ⟨rfl,rfl⟩ (by kernel_rfl) rfl
  (fun f fn hf hfn=>by
    obtain rfl:f=3:=Option.some.inj ((show Tryz.prog.funcNamed Rows.asmLinesRow.func=some 3 by kernel_rfl).symm.trans hf) |>.symm
    obtain rfl:fn=Tryz.f3:=(Option.some.inj (Tryz.func3.symm.trans hfn)).symm
    exact ⟨by kernel_rfl,fun j t ht=>by
     rw [Tryz.params3] at ht
     have h3:t=30 ∨ t=26:=by
      rcases j with _ | _ | j
      · exact Or.inl (by simpa using ht.symm)
      · exact Or.inr (by simpa using ht.symm)
      · simp at ht
     rcases h3 with rfl | rfl
     · exact (show Tryz.prog.wantsStandIn 30=false by kernel_rfl)
     · exact (show Tryz.prog.wantsStandIn 26=false by kernel_rfl)⟩)
  (by kernel_rfl)
end Go.Proofs.YtmomonnlmbljoaaGreatDoor
end
