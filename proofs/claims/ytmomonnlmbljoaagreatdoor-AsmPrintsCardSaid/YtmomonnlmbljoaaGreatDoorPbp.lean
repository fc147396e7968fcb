import Derived.Test.YtmomonnlmbljoaaGreatDoorRows
import Derived.ProofKit
import Derived.Deep.Slices
import Derived.Test.YtmomonnlmbljoaaGreatDoorPap
import Derived.Test.YtmomonnlmbljoaaGreatDoorPbl
import Derived.Test.YtmomonnlmbljoaaGreatDoorPbo
section
namespace Go.Proofs.YtmomonnlmbljoaaGreatDoor
open Go.V Go.RowKit Go.Shelf Go.Proofs
set_option maxRecDepth 1000000
set_option maxHeartbeats 4000000
set_option linter.unusedVariables false
attribute [local congr] U8 U7 Y8 Z0 a0i a0h a1V
variable {mL:Int}
noncomputable def b0A (Xs:List IR):List (List UInt8):=bcase (a8B Xs) (prT Xs 0) []
theorem c5u (Xs:List IR):(b0A Xs).length≤Xs.length:=by
 unfold b0A
 cases a8B Xs with
 | true=>show (prT Xs 0).length≤_; rw [c7W]; exact Nat.le_refl _
 | false=>exact Nat.zero_le _
theorem a4m.mono {call:o8} {f c c':Nat} {h h':Trie VObj} {Xs:List IR} {q:IR→Value} (H:a4m call f c h Xs q) (hc:c≤c') (hh:∀ b,b<c→h'.get b=h.get b):a4m call f c' h' Xs q:=
 fun x hx c2 h2 h3 h4=>H x hx c2 h2 (by omega) fun b hb=>(h4 b (by omega)).trans (hh b hb)
theorem t17 (N:Nat) (hN:1000<N) (call:o8) (c:Nat) (h:Trie VObj) (v:Value) (Xs:List IR) (H:InsL c h v Xs) (hl:Xs.length≤60) (h12:a4m call 12 c h Xs LSv) (h56:∀ n,n<1000→call 56 [.string ⟨⟨[32, 32]⟩⟩,.int .i64 (.ofNat n)]=M.pure (.ret (.string ⟨⟨a3K [32, 32] n⟩⟩))) (hL:∀ x∈Xs,a1G x.1=true→L9 (R6 x.1)≤30000) (r w:List Nat) :
 H6 (go (b4S H8 N call v) ⟨c,h,r,w⟩) fun x s=>∃ u,x=.ret u∧Q6 s.c s.h u ((b0A Xs).map a6s)∧c≤s.c∧∀ b,b<c→s.h.get b=h.get b:=by
 have hlen:=H.len
 simp (config:={ maxSteps:=10000000 }) (disch:=first | assumption | omega | (simp only [O1,N8,N7,M9,F8,Nat.reduceMul,Nat.reduceLT,l9,w9,F3,j6,A8,E8,D8,I5,G9,I9,I8,H7,o9,D5,G8,Nat.reduceAdd,D7,E9,Nat.reduceBEq,G5,F9,d9,j5,l6,z8,D9,F7,F5,F4,G6,C8,q9,A9,q8,l8,l7,E5,C9,G7,IntKind.bits,D6,r9,o7] <;> omega) | assumption) only [b4S,c3X,hlen,U0,V5,a1P,J6,V.e1g]
 refine H6.bindS (c5R N call c h v Xs H hl h12 h56 hL Xs 0 N 0 [] _ _ _ _ _ _ _ _ _ _ _ _ _ _ _ _ _ _ _ _ _ _ _ _ _ _ _ _ _ _ _ _ _ _ _ _ _ _ _ c h r w rfl (by omega) (by omega) rfl (Nat.le_refl _) (fun _ _=>rfl) (Or.inl ⟨rfl,rfl⟩)) fun x s hq=>?_
 obtain ⟨x1,x2⟩:=x
 obtain ⟨c',h',r',w'⟩:=s
 obtain ⟨hc,hh,⟨e1,rfl,e3⟩ | ⟨e1,rfl,e3⟩⟩:=hq
 · simp (config:={ maxSteps:=10000000 }) (disch:=first | assumption | omega | (simp only [O1,N8,N7,M9,F8,Nat.reduceMul,Nat.reduceLT,l9,w9,F3,j6,A8,E8,D8,I5,G9,I9,I8,H7,o9,D5,G8,Nat.reduceAdd,D7,E9,Nat.reduceBEq,G5,F9,d9,j5,l6,z8,D9,F7,F5,F4,G6,C8,q9,A9,q8,l8,l7,E5,C9,G7,IntKind.bits,D6,r9,o7] <;> omega) | assumption) only [D7,J3,K3,J3,a2N]
   exact H6.done ⟨_,rfl,by unfold b0A; rw [e1]; exact e3.slv,hc,hh⟩
 · simp only at e3
   simp (config:={ maxSteps:=10000000 }) (disch:=first | assumption | omega | (simp only [O1,N8,N7,M9,F8,Nat.reduceMul,Nat.reduceLT,l9,w9,F3,j6,A8,E8,D8,I5,G9,I9,I8,H7,o9,D5,G8,Nat.reduceAdd,D7,E9,Nat.reduceBEq,G5,F9,d9,j5,l6,z8,D9,F7,F5,F4,G6,C8,q9,A9,q8,l8,l7,E5,C9,G7,IntKind.bits,D6,r9,o7] <;> omega) | assumption) only [e3,K3,a5Y]
   exact H6.done ⟨_,rfl,by unfold b0A; rw [e1]; exact ⟨none, 0,rfl,Or.inl rfl⟩,hc,hh⟩
theorem t18 (N:Nat) (hN:1000<N) (call:o8) (c:Nat) (h:Trie VObj) (v:Value) (Xs:List IR) (H:InsL c h v Xs) (hl:Xs.length≤60) (h13:a4m call 13 c h Xs LSv) (h19:a4m call 19 c h Xs PLv) (hL:∀ x∈Xs,a1G x.1=true→L9 (R6 x.1)≤30000) (r w:List Nat) :
 H6 (go (b4W H8 N call v) ⟨c,h,r,w⟩) fun x s=>∃ u,x=.ret u∧Q6 s.c s.h u ((b0A Xs).map a6s)∧c≤s.c∧∀ b,b<c→s.h.get b=h.get b:=by
 simp (config:={ maxSteps:=10000000 }) (disch:=first | assumption | omega | (simp only [O1,N8,N7,M9,F8,Nat.reduceMul,Nat.reduceLT,l9,w9,F3,j6,A8,E8,D8,I5,G9,I9,I8,H7,o9,D5,G8,Nat.reduceAdd,D7,E9,Nat.reduceBEq,G5,F9,d9,j5,l6,z8,D9,F7,F5,F4,G6,C8,q9,A9,q8,l8,l7,E5,C9,G7,IntKind.bits,D6,r9,o7] <;> omega) | assumption) only [b4W,V5,a1P,J6,U3]
 refine H6.bindS (c5a N hN call c h v Xs H hl h13 h19 hL Xs 0 N 0 [] _ _ _ _ _ _ _ _ _ _ _ _ _ _ _ _ _ _ _ _ _ _ _ _ _ _ _ _ _ _ _ _ _ _ _ _ _ _ _ _ _ _ _ _ _ _ _ _ _ _ _ _ _ _ _ c h r w rfl (by omega) (by omega) rfl (Nat.le_refl _) (fun _ _=>rfl) (Or.inl ⟨rfl,rfl⟩)) fun x s hq=>?_
 obtain ⟨x1,x2⟩:=x
 obtain ⟨c',h',r',w'⟩:=s
 obtain ⟨hc,hh,⟨e1,rfl,e3⟩ | ⟨e1,rfl,e3⟩⟩:=hq
 · simp (config:={ maxSteps:=10000000 }) (disch:=first | assumption | omega | (simp only [O1,N8,N7,M9,F8,Nat.reduceMul,Nat.reduceLT,l9,w9,F3,j6,A8,E8,D8,I5,G9,I9,I8,H7,o9,D5,G8,Nat.reduceAdd,D7,E9,Nat.reduceBEq,G5,F9,d9,j5,l6,z8,D9,F7,F5,F4,G6,C8,q9,A9,q8,l8,l7,E5,C9,G7,IntKind.bits,D6,r9,o7] <;> omega) | assumption) only [D7,J3,K3,J3,a2N]
   exact H6.done ⟨_,rfl,by unfold b0A; rw [e1]; exact e3.slv,hc,hh⟩
 · simp only at e3
   simp (config:={ maxSteps:=10000000 }) (disch:=first | assumption | omega | (simp only [O1,N8,N7,M9,F8,Nat.reduceMul,Nat.reduceLT,l9,w9,F3,j6,A8,E8,D8,I5,G9,I9,I8,H7,o9,D5,G8,Nat.reduceAdd,D7,E9,Nat.reduceBEq,G5,F9,d9,j5,l6,z8,D9,F7,F5,F4,G6,C8,q9,A9,q8,l8,l7,E5,C9,G7,IntKind.bits,D6,r9,o7] <;> omega) | assumption) only [e3,K3,a5Y]
   exact H6.done ⟨_,rfl,by unfold b0A; rw [e1]; exact ⟨none, 0,rfl,Or.inl rfl⟩,hc,hh⟩
theorem t4 (N:Nat) (hN:1000<N) (call Y2:o8) (c:Nat) (h:Trie VObj) (v:Value) (Xs:List IR) (H:InsL c h v Xs)
 (h10:∀ a,call 10 [a]=a9b H8 N Y2 a) (h11:call 11 []=M.pure (.ret (.bool true))) (h16:∀ a b,call 16 [a,b]=b4z H8 N Y2 a b) (h17:∀ a,call 17 [a]=b4S H8 N Y2 a) (h18:∀ a,call 18 [a]=b4W H8 N Y2 a)
 (h56:∀ n,n<1000→Y2 56 [.string ⟨⟨[32, 32]⟩⟩,.int .i64 (.ofNat n)]=M.pure (.ret (.string ⟨⟨a3K [32, 32] n⟩⟩)))
 (hC:b0E Xs=true→a4m Y2 12 c h Xs LSv∧a4m Y2 13 c h Xs LSv∧a4m Y2 19 c h Xs PLv∧Xs.length≤60∧∀ x∈Xs,a1G x.1=true→L9 (R6 x.1)≤30000) (r w:List Nat) :
 H6 (go (sh4 H8 N call v) ⟨c,h,r,w⟩) fun x s=>x=.ret (.bool true):=by
 simp (config:={ maxSteps:=10000000 }) (disch:=first | assumption | omega | (simp only [O1,N8,N7,M9,F8,Nat.reduceMul,Nat.reduceLT,l9,w9,F3,j6,A8,E8,D8,I5,G9,I9,I8,H7,o9,D5,G8,Nat.reduceAdd,D7,E9,Nat.reduceBEq,G5,F9,d9,j5,l6,z8,D9,F7,F5,F4,G6,C8,q9,A9,q8,l8,l7,E5,C9,G7,IntKind.bits,D6,r9,o7] <;> omega) | assumption) only [sh4,d0T,h10,un,U0,V5,U6,J6]
 refine H6.bindS (t10 N (by omega) Y2 c h v Xs H r w) fun x s hq=>?_
 obtain ⟨c1,h1,r1,w1⟩:=s
 obtain ⟨rfl,e1,e2⟩:=hq
 simp only at e1 e2
 obtain rfl:=e1.symm
 obtain rfl:=e2.symm
 cases hf:b0E Xs with
 | false=>
   simp (config:={ maxSteps:=10000000 }) (disch:=first | assumption | omega | (simp only [O1,N8,N7,M9,F8,Nat.reduceMul,Nat.reduceLT,l9,w9,F3,j6,A8,E8,D8,I5,G9,I9,I8,H7,o9,D5,G8,Nat.reduceAdd,D7,E9,Nat.reduceBEq,G5,F9,d9,j5,l6,z8,D9,F7,F5,F4,G6,C8,q9,A9,q8,l8,l7,E5,C9,G7,IntKind.bits,D6,r9,o7] <;> omega) | assumption) only [h11,I5,K3,J4,a4w,a1X,J3,a2M,a3P,a3O,a5y,X4,a6j,K6,V.e1g,R7]
   exact H6.done rfl
 | true=>
   obtain ⟨C12,C13,C19,hl,hL⟩:=hC hf
   have hol:=c5u Xs
   simp (config:={ maxSteps:=10000000 }) (disch:=first | assumption | omega | (simp only [O1,N8,N7,M9,F8,Nat.reduceMul,Nat.reduceLT,l9,w9,F3,j6,A8,E8,D8,I5,G9,I9,I8,H7,o9,D5,G8,Nat.reduceAdd,D7,E9,Nat.reduceBEq,G5,F9,d9,j5,l6,z8,D9,F7,F5,F4,G6,C8,q9,A9,q8,l8,l7,E5,C9,G7,IntKind.bits,D6,r9,o7] <;> omega) | assumption) only [h17,G9,a0d,J6,J4,a1X,J2,a5y,a4h,V.e1g,R7]
   refine H6.bindS (t17 N hN Y2 c h v Xs H hl C12 h56 hL _ _) fun x s hq=>?_
   obtain ⟨c2,h2,r2,w2⟩:=s
   obtain ⟨u1,rfl,S1,hc2,hh2⟩:=hq
   simp only at S1 hc2 hh2
   simp (config:={ maxSteps:=10000000 }) (disch:=first | assumption | omega | (simp only [O1,N8,N7,M9,F8,Nat.reduceMul,Nat.reduceLT,l9,w9,F3,j6,A8,E8,D8,I5,G9,I9,I8,H7,o9,D5,G8,Nat.reduceAdd,D7,E9,Nat.reduceBEq,G5,F9,d9,j5,l6,z8,D9,F7,F5,F4,G6,C8,q9,A9,q8,l8,l7,E5,C9,G7,IntKind.bits,D6,r9,o7] <;> omega) | assumption) only [h18,a0d,J6,J4]
   refine H6.bindS (t18 N hN Y2 c2 h2 v Xs (H.mono hc2 hh2) hl (C13.mono hc2 hh2) (C19.mono hc2 hh2) hL _ _) fun x s hq=>?_
   obtain ⟨c3,h3,r3,w3⟩:=s
   obtain ⟨u2,rfl,S2,hc3,hh3⟩:=hq
   simp only at S2 hc3 hh3
   simp (config:={ maxSteps:=10000000 }) (disch:=first | assumption | omega | (simp only [O1,N8,N7,M9,F8,Nat.reduceMul,Nat.reduceLT,l9,w9,F3,j6,A8,E8,D8,I5,G9,I9,I8,H7,o9,D5,G8,Nat.reduceAdd,D7,E9,Nat.reduceBEq,G5,F9,d9,j5,l6,z8,D9,F7,F5,F4,G6,C8,q9,A9,q8,l8,l7,E5,C9,G7,IntKind.bits,D6,r9,o7] <;> omega) | assumption) only [h16,a0d,J6,J4]
   refine H6.bindS (t16 N Y2 c3 h3 u1 u2 (b0A Xs) (S1.mono hc3 hh3) S2 (by omega) (by omega) _ _) fun x s hq=>?_
   obtain ⟨c4,h4,r4,w4⟩:=s
   obtain ⟨rfl,e1,e2⟩:=hq
   simp (config:={ maxSteps:=10000000 }) (disch:=first | assumption | omega | (simp only [O1,N8,N7,M9,F8,Nat.reduceMul,Nat.reduceLT,l9,w9,F3,j6,A8,E8,D8,I5,G9,I9,I8,H7,o9,D5,G8,Nat.reduceAdd,D7,E9,Nat.reduceBEq,G5,F9,d9,j5,l6,z8,D9,F7,F5,F4,G6,C8,q9,A9,q8,l8,l7,E5,C9,G7,IntKind.bits,D6,r9,o7] <;> omega) | assumption) only [h11,K3,J4,a4w,J3,a2M,a3P,a3O,X4,Y3,a6j,K6,V.e1g]
   exact H6.done rfl
theorem d0m (X:Ins) (t l:Value) (hN:X.N<18446744073709551616):a7i X=some (LSv (X,t,l)):=by
 unfold a7i LSv LS
 cases a1G X with
 | true=>rw [H9 hN]; rfl
 | false=>rfl
theorem c7X (n:Nat) (h:n<1000):a8W [.string ⟨⟨[32, 32]⟩⟩,.int .i64 (.ofNat n)]=some (.string ⟨⟨a3K [32, 32] n⟩⟩):=by
 have e1:Nat.blt n 4294967296=true:=H9 (by omega)
 have e2:Nat.ble (L9 [(32:UInt8), 32] * n) 4294967296=true:=Nat.ble_eq_true_of_le (by show (0+1+1) * n≤_; omega)
 show (match Nat.blt n 4294967296 && Nat.ble (L9 [(32:UInt8), 32] * n) 4294967296 with | true=>some (Value.string ⟨⟨a3K [32, 32] n⟩⟩) | false=>none)=_
 rw [e1,e2]
 rfl
theorem b4J {Xs:List IR} (h:b0E Xs=true):Xs.length≤60∧∀ x∈Xs,x.1.labels.length<1000∧x.1.types.length<1000:=by
 unfold b0E at h
 rw [Bool.and_eq_true] at h
 refine ⟨?_,fun x hx=>?_⟩
 · rcases Nat.lt_or_ge 60 Xs.length with p | p
   · rw [H9 p] at h; cases h.1
   · exact p
 · have hb:b4N x=true:=(a0y _ _).1 h.2 x hx
   unfold b4N at hb
   rw [Bool.and_eq_true] at hb
   refine ⟨?_, ?_⟩
   · rcases Nat.lt_or_ge 20 x.1.labels.length with p | p
     · rw [H9 p] at hb; cases hb.1
     · omega
   · rcases Nat.lt_or_ge 20 x.1.types.length with p | p
     · rw [H9 p] at hb; cases hb.2
     · omega
theorem c3d (Xs:List IR) (v:Value) (hN:∀ x∈Xs,x.1.N<18446744073709551616) (c:Nat) (h:Trie VObj) (H:InsL c h v Xs) (r w:List Nat) :
 H6 (go (K4 s8 3 4 [v]) ⟨c,h,r,w⟩) fun x s=>x=.ret (.bool true):=by
 rw [a2H (q:=sh4) (N:=NN) (by kernel_rfl) 2]
 have hat:∀ x∈Xs,b0E Xs=true→InsAt c h x.1 (I7 x.1 x.2.1 x.2.2):=fun x hx hf=>by
  obtain ⟨H1,H2⟩:=H.each x hx
  obtain ⟨q1,q2⟩:=(b4J hf).2 x hx
  exact ⟨⟨_,_,rfl,H1,H2⟩,q2,q1⟩
 have hx:∀ f,(s8.get f=some (arX (XI a7i)))→b0E Xs=true→a4m (K4 s8 1) f c h Xs LSv:=by
  intro f hf hfew x hx c' hh hc hb
  obtain ⟨z,hz⟩:=b3h (q:=a7i) (hat x hx hfew) hc hb (d0m x.1 x.2.1 x.2.2 (hN x hx))
  exact ⟨z,fun r w=>b3P hf 0 (hz r w)⟩
 have hp:b0E Xs=true→a4m (K4 s8 1) 19 c h Xs PLv:=by
  intro hfew x hx c' hh hc hb
  obtain ⟨z,hz⟩:=b3h (q:=fun X=>some (.bool (a1G X))) (hat x hx hfew) hc hb rfl
  exact ⟨z,fun r w=>b3P (by kernel_rfl) 0 (hz r w)⟩
 refine t4 NN (by decide) _ (K4 s8 1) c h v Xs H (fun a=>?_) ?_ (fun a b=>?_) (fun a=>?_) (fun a=>?_) (fun n hn=>?_) (fun hf=>⟨hx 12 (by kernel_rfl) hf,hx 13 (by kernel_rfl) hf,hp hf,(b4J hf).1,fun x hx hpl=>c5i x.1 hpl (hN x hx) ((b4J hf).2 x hx).1⟩) r w
 · exact a2H (q:=a9b) (N:=NN) (by kernel_rfl) 1 a
 · exact a5g s8 1 11 [] (g:=alX) (by kernel_rfl) rfl
 · exact a9L (q:=b4z) (N:=NN) (by kernel_rfl) 1 a b
 · exact a2H (q:=b4S) (N:=NN) (by kernel_rfl) 1 a
 · exact a2H (q:=b4W) (N:=NN) (by kernel_rfl) 1 a
 · exact a5g s8 0 56 _ (g:=a8W) (by kernel_rfl) (c7X n hn)
end Go.Proofs.YtmomonnlmbljoaaGreatDoor
end
section
noncomputable section
namespace Go.V
open Go.RowKit (Below)
section
variable {P:Program} {T:Tab} {w:World} {rows:a3J}
def a7g (locs:List (Nat×Nat)):KM:=fun b g=>if g=0 then (match locs[b]? with | some p=>some ⟨p.1, 0,p.2, 0,false⟩ | none=>none) else none
theorem a5i {locs:List (Nat×Nat)} {b g:Nat} {l:Loc} (h:a7g locs b g=some l):∃ p,locs[b]?=some p∧g=0∧l=⟨p.1, 0,p.2, 0,false⟩:=by
 unfold a7g at h
 split at h
 · rename_i hg
   split at h
   · rename_i p hp; cases h; exact ⟨p,hp,hg,rfl⟩
   · cases h
 · cases h
theorem a9l {locs:List (Nat×Nat)} {b:Nat} {p:Nat×Nat} (h:locs[b]?=some p):a7g locs b 0=some ⟨p.1, 0,p.2, 0,false⟩:=by
 unfold a7g
 rw [if_pos rfl,h]
end
end Go.V
end
section
namespace Go.Proofs.YtmomonnlmbljoaaGreatDoor
open Go.ChangeShapes Go.WideShapes Go.ChangeAt Go.RowKit
set_option maxRecDepth 100000
theorem d8I {α:Type} {cs:List α} (h:cs.length=9):∃ a0 a1 a2 a3 a4 a5 a6 a7 a8,cs=[a0,a1,a2,a3,a4,a5,a6,a7,a8]:=by
 match cs,h with
 | [a0,a1,a2,a3,a4,a5,a6,a7,a8],_=>exact ⟨a0,a1,a2,a3,a4,a5,a6,a7,a8,rfl⟩
theorem e0P {α:Type} {cs:List α} (h:cs.length=7):∃ a0 a1 a2 a3 a4 a5 a6,cs=[a0,a1,a2,a3,a4,a5,a6]:=by
 match cs,h with
 | [a0,a1,a2,a3,a4,a5,a6],_=>exact ⟨a0,a1,a2,a3,a4,a5,a6,rfl⟩
theorem c7a {α:Type} {cs:List α} (h:cs.length=3):∃ a0 a1 a2,cs=[a0,a1,a2]:=by
 match cs,h with
 | [a0,a1,a2],_=>exact ⟨a0,a1,a2,rfl⟩
theorem c2l {H:Type} {enc:TypeId×Value→H} {W:World} {sp:Nat→Bool} {fuel:Nat} {cs:List Value} {x:DataW H×List MemPlace} (h:DataW.trod enc Tryz.prog W 0 sp true fuel 26 cs=some x) :
 ∃ k v i:Int,cs=[.int .i64 k,.int .i64 v,.int .i64 i]∧(Lit.int .i64 i).wf=true:=by
 obtain ⟨xs,n,_,_,hl,hlen,hf⟩:=DataW.trod_struct Tryz.underlying26 h
 obtain ⟨c0,c1,c2,rfl⟩:=c7a (hl.trans (by kernel_rfl))
 obtain ⟨y0,y1,y2,rfl⟩:=c7a (hlen.trans (by kernel_rfl))
 have k3:Tryz.prog.cellsOf 3=1:=by kernel_rfl
 have k24:Tryz.prog.cellsOf 24=1:=by kernel_rfl
 have f0:DataW.trod enc Tryz.prog W 0 sp true n 3 (([c0,c1,c2].drop 0).take (Tryz.prog.cellsOf 3))=some y0:=hf 0 _ rfl
 have f1:DataW.trod enc Tryz.prog W 0 sp true n 24 (([c0,c1,c2].drop 1).take (Tryz.prog.cellsOf 24))=some y1:=hf 1 _ rfl
 have f2:DataW.trod enc Tryz.prog W 0 sp true n 3 (([c0,c1,c2].drop 2).take (Tryz.prog.cellsOf 3))=some y2:=hf 2 _ rfl
 rw [k3] at f0 f2
 rw [k24] at f1
 obtain ⟨k,e0,_,_⟩:=DataW.trod_int Tryz.underlying3 f0
 obtain ⟨v,e1,_,_⟩:=DataW.trod_int Tryz.underlying24 f1
 obtain ⟨i,e2,_,w2⟩:=DataW.trod_int Tryz.underlying3 f2
 simp at e0 e1 e2
 exact ⟨k,v,i,by rw [e0,e1,e2],w2⟩
theorem c2T {H:Type} {enc:TypeId×Value→H} {W:World} {fuel:Nat} {cs:List Value} {x:DataW H×List MemPlace} (h:DataW.trod enc Tryz.prog W 0 (fun _=>true) true fuel 30 cs=some x) :
 ∃ (op A B N k v i:Int) (tv lv:Value) (n:Nat) (x1 x2:DataW H×List MemPlace),cs=[.int .i64 op,.int .i64 A,.int .i64 B,.int .u64 N,.int .i64 k,.int .i64 v,.int .i64 i,tv,lv]∧(Lit.int .u64 N).wf=true∧(Lit.int .i64 i).wf=true ∧
   DataW.trod enc Tryz.prog W 0 (fun _=>true) true n 27 [tv]=some x1∧DataW.trod enc Tryz.prog W 0 (fun _=>true) true n 28 [lv]=some x2:=by
 obtain ⟨xs,n,_,_,hl,hlen,hf⟩:=DataW.trod_struct Tryz.underlying30 h
 obtain ⟨c0,c1,c2,c3,c4,c5,c6,c7,c8,rfl⟩:=d8I (hl.trans (by kernel_rfl))
 obtain ⟨y0,y1,y2,y3,y4,y5,y6,rfl⟩:=e0P (hlen.trans (by kernel_rfl))
 have k3:Tryz.prog.cellsOf 3=1:=by kernel_rfl
 have k22:Tryz.prog.cellsOf 22=1:=by kernel_rfl
 have k23:Tryz.prog.cellsOf 23=1:=by kernel_rfl
 have k26:Tryz.prog.cellsOf 26=3:=by kernel_rfl
 have k27:Tryz.prog.cellsOf 27=1:=by kernel_rfl
 have k28:Tryz.prog.cellsOf 28=1:=by kernel_rfl
 have f0:DataW.trod enc Tryz.prog W 0 (fun _=>true) true n 22 (([c0,c1,c2,c3,c4,c5,c6,c7,c8].drop 0).take (Tryz.prog.cellsOf 22))=some y0:=hf 0 _ rfl
 have f1:DataW.trod enc Tryz.prog W 0 (fun _=>true) true n 3 (([c0,c1,c2,c3,c4,c5,c6,c7,c8].drop 1).take (Tryz.prog.cellsOf 3))=some y1:=hf 1 _ rfl
 have f2:DataW.trod enc Tryz.prog W 0 (fun _=>true) true n 3 (([c0,c1,c2,c3,c4,c5,c6,c7,c8].drop 2).take (Tryz.prog.cellsOf 3))=some y2:=hf 2 _ rfl
 have f3:DataW.trod enc Tryz.prog W 0 (fun _=>true) true n 23 (([c0,c1,c2,c3,c4,c5,c6,c7,c8].drop 3).take (Tryz.prog.cellsOf 23))=some y3:=hf 3 _ rfl
 have f4:DataW.trod enc Tryz.prog W 0 (fun _=>true) true n 26 (([c0,c1,c2,c3,c4,c5,c6,c7,c8].drop 4).take (Tryz.prog.cellsOf 26))=some y4:=hf 4 _ rfl
 have f5:DataW.trod enc Tryz.prog W 0 (fun _=>true) true n 27 (([c0,c1,c2,c3,c4,c5,c6,c7,c8].drop 7).take (Tryz.prog.cellsOf 27))=some y5:=hf 5 _ rfl
 have f6:DataW.trod enc Tryz.prog W 0 (fun _=>true) true n 28 (([c0,c1,c2,c3,c4,c5,c6,c7,c8].drop 8).take (Tryz.prog.cellsOf 28))=some y6:=hf 6 _ rfl
 rw [k22] at f0
 rw [k3] at f1 f2
 rw [k23] at f3
 rw [k26] at f4
 rw [k27] at f5
 rw [k28] at f6
 obtain ⟨op,e0,_,_⟩:=DataW.trod_int Tryz.underlying22 f0
 obtain ⟨A,e1,_,_⟩:=DataW.trod_int Tryz.underlying3 f1
 obtain ⟨B,e2,_,_⟩:=DataW.trod_int Tryz.underlying3 f2
 obtain ⟨N,e3,_,w3⟩:=DataW.trod_int Tryz.underlying23 f3
 obtain ⟨k,v,i,e4,w4⟩:=c2l f4
 simp at e0 e1 e2 e3 e4
 exact ⟨op,A,B,N,k,v,i,c7,c8,n,y5,y6,by rw [e0,e1,e2,e3,e4.1,e4.2.1,e4.2.2],w3,w4,f5,f6⟩
end Go.Proofs.YtmomonnlmbljoaaGreatDoor
end
section
namespace Go.Proofs.YtmomonnlmbljoaaGreatDoor
open Go.V Go.RowKit
set_option maxRecDepth 100000
theorem c3S:∀ l:List Value,Y0 0 (l.map fun x=>(x, 0)) l.length=some l:=by
 intro l
 induction l with
 | nil=>rfl
 | cons x l ih=>
   show (match Nat.ble 0 0 with | true=>(match Y0 0 (l.map fun x=>(x, 0)) l.length with | some vs=>some (x::vs) | none=>none) | false=>none)=_
   rw [ih]
theorem d0G {N:Int} (h:(Lit.int .u64 N).wf=true):∃ n:Nat,N=.ofNat n∧n<18446744073709551616:=by
 have h':(0:Int)≤N∧N≤18446744073709551615:=by
  simp [Lit.wf,IntKind.min,IntKind.max,IntKind.signed,IntKind.bits] at h
  omega
 exact ⟨N.toNat,by simp; omega,by omega⟩
end Go.Proofs.YtmomonnlmbljoaaGreatDoor
end
section
noncomputable section
namespace Go.V
open Go.RowKit (Below)
section
variable {P:Program} {T:Tab} {w:World} {rows:a3J}
theorem c3r {R:Nat→Prop} (hR:∀ k,w.heap.size≤k→R k) (locs:List (Nat×Nat)) (hlen:locs.length=rows.length) (hlt:∀ p∈locs,p.1<w.heap.size∧R p.1)
 (hcell:∀ (b:Nat) (p:Nat×Nat) (l:List Value),locs[b]?=some p→rows[b]?=some l→∀ (off:Nat) (v:Value),l[off]?=some v→∃ v',w.cell? ⟨p.1,p.2+off,none⟩=some v'∧VR (a7g locs) v' v):Sim w.heap.size ⟨w,R⟩ (a7g locs) (a4P rows).h w:=by
 have hcs:∀ b cs cur ro,(a4P rows).h.get b=some (.cells cs cur ro)→∃ l,rows[b]?=some l∧cs=l.map (fun x=>(x, 0))∧cur=0∧ro=true:=by
  intro b cs cur ro h
  rw [a3r] at h
  cases q:rows[b]? with
  | none=>rw [q] at h; cases h
  | some l=>rw [q] at h; cases h; exact ⟨l,rfl,rfl,rfl,rfl⟩
 refine ⟨⟨Nat.le_refl _,hR⟩,Below.refl _ _, ?_, ?_, ?_, ?_, ?_, ?_, ?_, ?_, ?_, ?_,fun b g l h _=>by obtain ⟨_,_,e,_⟩:=a5i h; exact e⟩
 · intro b g l h
   obtain ⟨p,h1,_,rfl⟩:=a5i h
   exact hlt p (List.mem_of_getElem? h1)
 · intro b g l h
   obtain ⟨p,h1,_,rfl⟩:=a5i h
   have hb:b<rows.length:=by rw [← hlen]; exact (List.getElem?_eq_some_iff.1 h1).1
   rw [a3r,List.getElem?_eq_getElem hb]
   exact ⟨_,rfl⟩
 · intro b g l h ho
   obtain ⟨_,_,_,rfl⟩:=a5i h
   cases ho
 · intro b g l b' g' l' h _ _ ho
   obtain ⟨_,_,_,rfl⟩:=a5i h
   cases ho
 · intro b g l g' l' h h'
   obtain ⟨p,h1,_,rfl⟩:=a5i h
   obtain ⟨p',h1',_,rfl⟩:=a5i h'
   rw [h1] at h1'
   cases h1'
   exact ⟨rfl,fun _=>rfl⟩
 · intro b g l cs cur ro h ho
   obtain ⟨_,_,_,rfl⟩:=a5i h
   cases ho
 · intro b cs cur ro h
   obtain ⟨l,h1,rfl,rfl,rfl⟩:=hcs b cs cur ro h
   have hb:b<locs.length:=by rw [hlen]; exact (List.getElem?_eq_some_iff.1 h1).1
   refine ⟨fun g l' q=>?_,fun g hg=>?_,fun c hc=>?_⟩
   · obtain ⟨_,_,rfl,rfl⟩:=a5i q
     exact ⟨Nat.le_refl _,fun e=>by cases e⟩
   · obtain rfl:g=0:=Nat.le_zero.1 hg
     exact ⟨_,a9l (List.getElem?_eq_getElem hb)⟩
   · obtain ⟨x,_,rfl⟩:=List.mem_map.1 hc
     exact Nat.le_refl _
 · intro b cs cur ro g l h hk off v st hv hst hlo
   obtain ⟨l',h1,rfl,rfl,rfl⟩:=hcs b cs cur ro h
   obtain ⟨p,h2,rfl,rfl⟩:=a5i hk
   rw [List.getElem?_map] at hv
   cases q:l'[off]? with
   | none=>rw [q] at hv; cases hv
   | some x=>
     rw [q] at hv
     cases hv
     obtain ⟨v',e1,e2⟩:=hcell b p l' h2 h1 off v q
     refine ⟨v', ?_,e2⟩
     show w.cell? ⟨p.1,p.2+(off - 0),none⟩=some v'
     rw [Nat.sub_zero]
     exact e1
 · intro b es h
   rw [a3r] at h
   cases q:rows[b]? with
   | none=>rw [q] at h; cases h
   | some l=>rw [q] at h; cases h
 · intro b x pos h
   rw [a3r] at h
   cases q:rows[b]? with
   | none=>rw [q] at h; cases h
   | some l=>rw [q] at h; cases h
theorem b4G {vs:a3J} (hT:TabOk P T) (hM:P.follows .mixedOrders=true) (locs:List (Nat×Nat)) (hlen:locs.length=rows.length) (hlt:∀ p∈locs,p.1<w.heap.size)
 (hcell:∀ (b:Nat) (p:Nat×Nat) (l:List Value),locs[b]?=some p→rows[b]?=some l→∀ (off:Nat) (v:Value),l[off]?=some v→∃ v',w.cell? ⟨p.1,p.2+off,none⟩=some v'∧VR (a7g locs) v' v)
 (hng:∀ g,g<T.ng→locs[g]?=some (g, 0)) (hL:LaidV vs w)
 {ext:Nat→Option (List Value→M Value)} (hE:a4C P T vs ext) {N:Nat} {sh:a1N} (hs:a7I P T ext N sh) {n f:Nat} {fn:Func} {c:Code} {args' args:List Value} {v:Value} {s':S}
 (hPf:P.funcs[f]?=some fn) (hnum:(fn.name == "runtime.NumGoroutine")=false) (hb:fn.body=some c)
 (ha:VRL (a7g locs) args' args) (hv:a0e 8 v=true) (h:K4 sh n f args (a4P rows)=some (.ret v,s')) :
 Calls P f args'.toArray w fun e w'=>e=.returned v∧Below w.heap.size w w':=by
 have hE':=hE w.heap.size ⟨w,fun _=>True⟩ hL hL.size
 rcases a9m hT hM hE' hs n f args (a4P rows) (.ret v) s' w (a7g locs) args' h (c3r (fun _ _=>trivial) locs hlen (fun p hp=>⟨hlt p hp,trivial⟩) hcell) (fun g hg=>⟨_,a9l (hng g hg),rfl,rfl,rfl⟩) (fun i hi _=>by
  rw [a3r]
  have:rows.length≤i:=by have:=hi; unfold a4P at this; rw [Z5] at this; exact this
  rw [List.getElem?_eq_none this]) ha with ⟨v1,v',w',K',_,q1,_⟩ | ⟨_,q⟩
 · rw [a1J hPf hnum hb] at q1; cases q1
 · refine q.mono fun e w' hq=>?_
   obtain ⟨v',K',e1,st,r⟩:=hq
   rw [e1,r.eq_of_noAddr 8 hv]
   exact ⟨rfl,st.sim.below⟩
end
end Go.V
end
section
namespace Go.Proofs.YtmomonnlmbljoaaGreatDoor
open Go.ChangeShapes Go.WideShapes Go.ChangeAt Go.RowKit Go.V
set_option maxRecDepth 100000
theorem c5Z {W:World} {base:Nat} {t e:TypeId} {v:Value} (ht:Tryz.prog.underlying t=some (.slice e)) (h:Value.okWide Tryz.prog W .any base t v):v=.slice none 0 0∨∃ a len cap,v=.slice (some a) len cap∧a.spot=none∧a.block<W.heap.size:=by
 have h1:Cell.okWide Tryz.prog W .any base t v:=by unfold Value.okWide at h; rw [ht] at h; exact h
 have h2:Cell.ok Tryz.prog W .any base t v:=by
  unfold Cell.okWide at h1; rw [ht] at h1
  cases v <;> exact h1
 cases v with
 | slice o len cap=>
   cases o with
   | none=>
     unfold Cell.ok at h2
     rw [ht] at h2
     cases len with
     | zero=>cases cap with
       | zero=>exact Or.inl rfl
       | succ n=>exact (h2:False).elim
     | succ n=>exact (h2:False).elim
   | some a=>
     unfold Cell.ok at h2
     rw [ht] at h2
     obtain ⟨_,_,_,hs,row,cells,hsh,_⟩:=h2
     refine Or.inr ⟨a,len,cap,rfl,hs, ?_⟩
     rcases Nat.lt_or_ge a.block W.heap.size with q | q
     · exact q
     · unfold World.shape? at hsh
       rw [Array.getElem?_eq_none q] at hsh
       cases hsh
 | _=>
   unfold Cell.ok at h2
   rw [ht] at h2
   exact (h2:False).elim
def b0z (W:World) (v:Value) (l:List Int):Prop:=(v=.slice none 0 0∧l=[])∨(∃ a,v=.slice (some a) 0 0∧l=[])∨∃ (a:Addr) (cap:Nat),v=.slice (some a) l.length (cap+1)∧l.length≤cap+1∧a.spot=none∧a.block<W.heap.size∧∀ (i:Nat) (z:Int),l[i]?=some z→W.cell? ⟨a.block,a.off+i,none⟩=some (.int .i64 z)
theorem b3A {H:Type} {enc:TypeId×Value→H} {W:World} {fuel:Nat} {v:Value} {x:DataW H×List MemPlace} {t e:TypeId} (ht:Tryz.prog.underlying t=some (.slice e)) (he:Tryz.prog.underlying e=some (.int .i64)) (hc:Tryz.prog.cellsOf e=1)
 (h:DataW.trod enc Tryz.prog W 0 (fun _=>true) true fuel t [v]=some x):∃ l,b0z W v l:=by
 rcases open_ints ht he hc h with ⟨e0,_⟩ | ⟨a,len,cap,zs,e0,_,h1,h2,h3,_,h4,_⟩
 · exact ⟨[],Or.inl ⟨by simpa using e0,rfl⟩⟩
 · have h3':zs.length=cap:=by simpa using h3
   have e0':v=.slice (some a) len cap:=by simpa using e0
   cases cap with
   | zero=>
     obtain rfl:len=0:=by omega
     exact ⟨[],Or.inr (Or.inl ⟨a,e0',rfl⟩)⟩
   | succ cap=>
     have hl:(zs.take len).length=len:=by rw [List.length_take]; omega
     have c0:=h4 0 (by omega)
     have hs:a.spot=none:=by simpa [Addr.add] using World.cell?_spot c0
     have hb:a.block<W.heap.size:=by simpa [Addr.add] using World.block_lt_of_cell? _ _ c0
     refine ⟨zs.take len,Or.inr (Or.inr ⟨a,cap,by rw [hl]; exact e0',by omega,hs,hb,fun i z hz=>?_⟩)⟩
     have hi:i<len:=by rw [← hl]; exact (List.getElem?_eq_some_iff.1 hz).1
     have e:=h4 i (by omega)
     obtain ⟨ab,ao,asp⟩:=a
     cases hs
     rw [show (⟨ab,ao,none⟩:Addr).add i=⟨ab,ao+i,none⟩ by simp [Addr.add]] at e
     show W.cell? ⟨ab,ao+i,none⟩=_
     rw [e]
     rw [List.getElem?_take,if_pos hi] at hz
     simp [List.getD,hz]
def b1r (j:Nat):Value→Value
 | .slice (some _) n _=>.slice (some ⟨j, 0,some 0⟩) n 1
 | _=>.slice none 0 0
def pOf:Value→Nat×Nat
 | .slice (some a) _ (_+1)=>(a.block,a.off)
 | _=>(0, 0)
theorem c0S {W:World} {v:Value} {l:List Int} (h0:0<W.heap.size) (H:b0z W v l):(pOf v).1<W.heap.size:=by
 rcases H with ⟨rfl,rfl⟩ | ⟨a,rfl,rfl⟩ | ⟨a,cap,rfl,_,_,h3,_⟩
 · exact h0
 · exact h0
 · exact h3
theorem b3r {W:World} {v:Value} {l:List Int} (H:b0z W v l) (off:Nat) (x:Value) (hx:(P6 l)[off]?=some x):W.cell? ⟨(pOf v).1,(pOf v).2+off,none⟩=some x∧plain x=true:=by
 rcases H with ⟨rfl,rfl⟩ | ⟨a,rfl,rfl⟩ | ⟨a,cap,rfl,_,_,h3,h4⟩
 · cases hx
 · cases hx
 · unfold P6 at hx
   rw [List.getElem?_map] at hx
   cases q:l[off]? with
   | none=>rw [q] at hx; cases hx
   | some z=>rw [q] at hx; cases hx; exact ⟨h4 off z q,rfl⟩
theorem b9f {W:World} {v:Value} {l:List Int} (H:b0z W v l) {j:Nat} {locs:List (Nat×Nat)} (hj:locs[j]?=some (pOf v)):VR (a7g locs) v (b1r j v):=by
 rcases H with ⟨rfl,rfl⟩ | ⟨a,rfl,rfl⟩ | ⟨a,cap,rfl,h1,h2,h3,h4⟩
 · exact VR.plain rfl
 · exact VR.slice (a9l hj) (Nat.le_refl _) (by decide) (Nat.le_refl _) (Or.inl rfl) (Or.inl rfl)
 · exact VR.slice (a9l hj) (Nat.le_refl _) (by decide) h1 (Or.inr h2) (Or.inr ⟨rfl,by simp [pOf],fun h=>(by cases h)⟩)
theorem b5p {W:World} {v:Value} {l:List Int} (H:b0z W v l) {j:Nat} {rows:a3J} (hj:rows[j]?=some (P6 l)):Q6 (Go.V.a4P rows).c (Go.V.a4P rows).h (b1r j v) (P6 l):=by
 have hlen:(P6 l).length=l.length:=by unfold P6; rw [List.length_map]
 rcases H with ⟨rfl,rfl⟩ | ⟨a,rfl,rfl⟩ | ⟨a,cap,rfl,h1,h2,h3,h4⟩
 · exact ⟨none, 0,rfl,Or.inl rfl⟩
 · exact ⟨some ⟨j, 0,some 0⟩, 1,rfl,Or.inl rfl⟩
 · refine ⟨some ⟨j, 0,some 0⟩, 1,by rw [hlen]; rfl,Or.inr ⟨j, 0, 0,(P6 l).map fun x=>(x, 0), 0,true,rfl,rfl, ?_, ?_, ?_⟩⟩
   · show j<L9 rows
     rw [Z5]; exact (List.getElem?_eq_some_iff.1 hj).1
   · rw [a3r,hj]
   · rw [O6]; exact c3S _
theorem c8u {α:Type} {p:Nat→α→Prop}:∀ n:Nat,(∀ i,i<n→∃ x,p i x)→∃ l:List α,l.length=n∧∀ i x,l[i]?=some x→p i x:=by
 intro n
 induction n with
 | zero=>exact fun _=>⟨[],rfl,fun i x h=>by simp at h⟩
 | succ n ih=>
   intro h
   obtain ⟨l,h1,h2⟩:=ih fun i hi=>h i (by omega)
   obtain ⟨x,hx⟩:=h n (Nat.lt_succ_self n)
   refine ⟨l ++ [x],by rw [List.length_append,h1]; rfl,fun i y hy=>?_⟩
   rcases Nat.lt_or_ge i l.length with q | q
   · rw [List.getElem?_append_left q] at hy; exact h2 i y hy
   · rw [List.getElem?_append_right q] at hy
     have hi:i - l.length=0:=by
      rcases Nat.eq_zero_or_pos (i - l.length) with r | r
      · exact r
      · rw [List.getElem?_eq_none (by simp; omega)] at hy; cases hy
     rw [hi] at hy
     cases hy
     rw [show i=n by omega]
     exact hx
theorem b5e {α β:Type} (f g:Nat→α→β):∀ (l:List α) (k i:Nat),((l.mapIdx fun i y=>[f (k+i) y,g (k+i) y]).flatten)[2 * i]?=(l[i]?).map (f (k+i))∧((l.mapIdx fun i y=>[f (k+i) y,g (k+i) y]).flatten)[2 * i+1]?=(l[i]?).map (g (k+i)):=by
 intro l
 induction l with
 | nil=>intro k i; simp
 | cons y l ih=>
   intro k i
   rw [List.mapIdx_cons]
   cases i with
   | zero=>simp
   | succ i=>
     have:=ih (k+1) i
     have e:∀ j,k+1+j=k+(j+1):=fun j=>by omega
     simp only [e] at this
     simp only [List.flatten_cons,List.cons_append,List.nil_append,show 2 * (i+1)=2 * i+1+1 by omega,List.getElem?_cons_succ]
     exact this
theorem b9s:∀ (l:List IR) (i j:Nat) (x:IR),l[i]?=some x→j<9→(l.flatMap a5P)[i * 9+j]?=(a5P x)[j]?:=by
 intro l
 induction l with
 | nil=>intro i j x h; simp at h
 | cons y l ih=>
   intro i j x h hj
   have h9:(a5P y).length=9:=rfl
   rw [List.flatMap_cons]
   cases i with
   | zero=>
     cases h
     rw [Nat.zero_mul,Nat.zero_add,List.getElem?_append_left (by omega)]
   | succ i=>
     rw [List.getElem?_append_right (by omega),h9,show (i+1) * 9+j - 9=i * 9+j by omega]
     exact ih i j x (by simpa using h) hj
theorem b7u (l:List IR):(l.flatMap a5P).length=l.length * 9:=by
 induction l with
 | nil=>rfl
 | cons y l ih=>rw [List.flatMap_cons,List.length_append,ih]; show 9+l.length * 9=(l.length+1) * 9; omega
theorem c7S:∀ (l:List Value) (n:Nat),n≤l.length→Y0 0 (l.map fun x=>(x, 0)) n=some (l.take n):=by
 intro l
 induction l with
 | nil=>intro n h; obtain rfl:n=0:=by simpa using h
        rfl
 | cons x l ih=>
   intro n h
   cases n with
   | zero=>rfl
   | succ n=>
     show (match Nat.ble 0 0 with | true=>(match Y0 0 (l.map fun x=>(x, 0)) n with | some vs=>some (x::vs) | none=>none) | false=>none)=_
     rw [ih n (by simpa using h)]
     rfl
end Go.Proofs.YtmomonnlmbljoaaGreatDoor
end
