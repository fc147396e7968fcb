import Derived.Test.YtmomonnlmbljoaaGreatDoorPbn
section
namespace Go.Proofs.YtmomonnlmbljoaaGreatDoor
open Go.V Go.RowKit Go.Shelf Go.Proofs
set_option maxRecDepth 1000000
set_option maxHeartbeats 4000000
set_option linter.unusedVariables false
attribute [local congr] U8 U7 Y8 Z0 a0i a0h a1V
variable {mL:Int}
theorem c5O (n:Nat) (T:List UInt8):M4 [32, 32] (pad n T)=pad (n+1) T:=by
 show M4 [32, 32] (M4 (a3K [32, 32] n) T)=M4 (M4 [32, 32] (a3K [32, 32] n)) T
 rw [N9,N9,N9,N9,List.append_assoc]
theorem c8v (n:Nat) (T:List UInt8):L9 (pad n T)=2 * n+L9 T:=by
 unfold pad
 rw [D6,b4T]
theorem b0y (N:Nat) (call:o8) (vs:List Value) (a:Nat) (hv:j4 vs 15=.int .i64 (.ofNat a)) (T:List UInt8) (hT:L9 T≤30000) (ha:a<1000) (c:Nat) (h:Trie VObj) (r w:List Nat) :
 ∀ (m j k:Nat) (s:List UInt8) (g0 g1 g2 g3 g4 g6 g7:Value),j+m=a→m<k→s=pad j T →
 H6 (go (a2S (b6e H8 N call vs) k [g0,g1,g2,g3,g4,.string ⟨⟨s⟩⟩,g6,g7,.int .i64 (.ofNat j)]) ⟨c,h,r,w⟩) fun x s=>s=⟨c,h,r,w⟩∧x.1=.exit 3∧j4 x.2 5=.string ⟨⟨pad a T⟩⟩:=by
 intro m
 induction m with
 | zero=>
   intro j k s g0 g1 g2 g3 g4 g6 g7 hj hk hs
   obtain ⟨k,rfl⟩:∃ m,k=m+1:=⟨k - 1,by omega⟩
   obtain rfl:j=a:=hj
   have hi:Nat.blt j j=false:=by
    cases q:Nat.blt j j with
    | false=>rfl
    | true=>rw [Nat.blt_eq] at q; omega
   simp (config:={ maxSteps:=10000000 }) (disch:=first | assumption | omega | (simp only [O1,N8,N7,M9,F8,Nat.reduceMul,Nat.reduceLT,l9,w9,F3,j6,A8,E8,D8,I5,G9,I9,I8,H7,o9,D5,G8,Nat.reduceAdd,D7,E9,Nat.reduceBEq,G5,F9,d9,j5,l6,z8,D9,F7,F5,F4,G6,C8,q9,A9,q8,l8,l7,E5,C9,G7,IntKind.bits,D6,r9,o7] <;> omega) | assumption) only [a1d,c1x,b6e,hv,a2t,hi,bn,U0,I4,K3,J2,X4,Y3,M6,a2N,V.e1g,a0t,a0G]
   exact H6.done ⟨rfl,rfl,by rw [← hs]; rfl⟩
 | succ m ih=>
   intro j k s g0 g1 g2 g3 g4 g6 g7 hj hk hs
   obtain ⟨k,rfl⟩:∃ m,k=m+1:=⟨k - 1,by omega⟩
   have hi:Nat.blt j a=true:=H9 (by omega)
   have hinc:=a4G j (by omega)
   have hl:=c8v j T
   rw [← hs] at hl
   simp (config:={ maxSteps:=10000000 }) (disch:=first | assumption | omega | (simp only [O1,N8,N7,M9,F8,Nat.reduceMul,Nat.reduceLT,l9,w9,F3,j6,A8,E8,D8,I5,G9,I9,I8,H7,o9,D5,G8,Nat.reduceAdd,D7,E9,Nat.reduceBEq,G5,F9,d9,j5,l6,z8,D9,F7,F5,F4,G6,C8,q9,A9,q8,l8,l7,E5,C9,G7,IntKind.bits,D6,r9,o7] <;> omega) | assumption) only [a1d,c1x,b6e,hv,a2t,hi,hinc,bn,U0,I4,K3,r9,o7,J3,X4,Y3,M6,K6,V.e1g,a0t,a0G,X7]
   exact ih (j+1) k _ _ _ _ _ _ _ _ (by omega) (by omega) (by rw [← c5O, ← hs]; rfl)
theorem c5a (N:Nat) (hN:1000<N) (call:o8) (c0:Nat) (h0:Trie VObj) (v:Value) (Xs:List IR) (H:InsL c0 h0 v Xs) (hl:Xs.length≤60) (h13:a4m call 13 c0 h0 Xs LSv) (h19:a4m call 19 c0 h0 Xs PLv) (hL:∀ x∈Xs,a1G x.1=true→L9 (R6 x.1)≤30000) :
 ∀ (t:List IR) (i k d:Nat) (S:List (List UInt8)) (u:Value) (g0 g1 g2 g3 g4 g5 g6 g7 g8 g9 g11 g12 g13 g14 g15 g16 g17 g18 g19 g20 g21 g22 g23 g24 g25 g26 g27 g28 g29 g30 g31 g32 g33 g34 g36 g37 g38 g39 g40 g41 g42 g43 g44 g45 g46 g47 g48 g49 g50 g51 g52 g53 g55 g56:Value) (c:Nat) (h:Trie VObj) (r w:List Nat),Xs.drop i=t→t.length<k→d≤i→S.length=i→c0≤c→(∀ b,b<c0→h.get b=h0.get b)→a9k c0 c h u S →
 H6 (go (a2S (b3g H8 N call v) k [g0,g1,g2,g3,g4,g5,g6,g7,g8,g9,.slice none 0 0,g11,g12,g13,g14,g15,g16,g17,g18,g19,g20,g21,g22,g23,g24,g25,g26,g27,g28,g29,g30,g31,g32,g33,g34,.int .i64 (.ofNat d),g36,g37,g38,g39,g40,g41,g42,g43,g44,g45,g46,g47,g48,g49,g50,g51,g52,g53,u,g55,g56,.int .i64 (.ofNat i)]) ⟨c,h,r,w⟩)
  fun x s=>c0≤s.c∧(∀ b,b<c0→s.h.get b=h0.get b)∧((a8B t=true∧x.1=.exit 0∧a9k c0 s.c s.h (j4 x.2 54) (S ++ prT t d))∨(a8B t=false∧x.1=.ret∧j4 x.2 10=.slice none 0 0)):=by
 intro t
 have hlen:=H.len
 induction t with
 | nil=>
   intro i k d S u g0 g1 g2 g3 g4 g5 g6 g7 g8 g9 g11 g12 g13 g14 g15 g16 g17 g18 g19 g20 g21 g22 g23 g24 g25 g26 g27 g28 g29 g30 g31 g32 g33 g34 g36 g37 g38 g39 g40 g41 g42 g43 g44 g45 g46 g47 g48 g49 g50 g51 g52 g53 g55 g56 c h r w hd hk hdi hS hc hh HO
   obtain ⟨k,rfl⟩:∃ m,k=m+1:=⟨k - 1,by simp at hk; omega⟩
   have hi:Nat.blt i Xs.length=false:=by
    have:Xs.length≤i:=by simpa [List.drop_eq_nil_iff] using hd
    cases q:Nat.blt i Xs.length with
    | false=>rfl
    | true=>have:i<Xs.length:=by simpa [Nat.blt_eq] using q
            omega
   simp (config:={ maxSteps:=10000000 }) (disch:=first | assumption | omega | (simp only [O1,N8,N7,M9,F8,Nat.reduceMul,Nat.reduceLT,l9,w9,F3,j6,A8,E8,D8,I5,G9,I9,I8,H7,o9,D5,G8,Nat.reduceAdd,D7,E9,Nat.reduceBEq,G5,F9,d9,j5,l6,z8,D9,F7,F5,F4,G6,C8,q9,A9,q8,l8,l7,E5,C9,G7,IntKind.bits,D6,r9,o7] <;> omega) | assumption) only [a1d,c2m,c1Y,c1o,c2V,c2D,c1i,c2u,c1e,b7x,b7M,b6C,b8k,b6Y,b3g,hlen,a2t,hi,bn,un,U0,V5,U6,a1P,I4,K3,J2,X4,Y3,M6,a2N,V.e1g,a0t,a0G,a5F]
   exact H6.done ⟨hc,hh,Or.inl ⟨rfl,rfl,by rw [show S ++ prT [] d=S from List.append_nil S]; exact HO⟩⟩
 | cons x t ih=>
   intro i k d S u g0 g1 g2 g3 g4 g5 g6 g7 g8 g9 g11 g12 g13 g14 g15 g16 g17 g18 g19 g20 g21 g22 g23 g24 g25 g26 g27 g28 g29 g30 g31 g32 g33 g34 g36 g37 g38 g39 g40 g41 g42 g43 g44 g45 g46 g47 g48 g49 g50 g51 g52 g53 g55 g56 c h r w hd hk hdi hS hc hh HO
   obtain ⟨k,rfl⟩:∃ m,k=m+1:=⟨k - 1,by simp at hk; omega⟩
   have hil:i<Xs.length:=by
    have:=congrArg List.length hd; simp at this; omega
   have hi:Nat.blt i Xs.length=true:=H9 hil
   have hq:Xs[i]?=some x:=by
    have:=congrArg (fun t=>t[0]?) hd; simpa using this
   have hd':Xs.drop (i+1)=t:=by
    have:=congrArg List.tail hd; simpa using this
   have hm:=List.mem_of_getElem? hq
   have hinc:=a4G i (by omega)
   have hind:=a4G d (by omega)
   obtain ⟨b,p,p0,p7,p8,_,e1,e2,_,_,e5,e6,_⟩:=H.read hc hh hq
   have hz:=fun c hh hc hb r w=>a4m.ends h13 hm (c:=c) (hh:=hh) hc hb r w
   have hy:=fun c hh hc hb r w=>a4m.ends h19 hm (c:=c) (hh:=hh) hc hb r w
   have hLx:=hL x hm
   obtain ⟨X,tv,lv⟩:=x
   simp only at e5 e6 hz hy hLx
   simp (config:={ maxSteps:=10000000 }) (disch:=first | assumption | omega | (simp only [O1,N8,N7,M9,F8,Nat.reduceMul,Nat.reduceLT,l9,w9,F3,j6,A8,E8,D8,I5,G9,I9,I8,H7,o9,D5,G8,Nat.reduceAdd,D7,E9,Nat.reduceBEq,G5,F9,d9,j5,l6,z8,D9,F7,F5,F4,G6,C8,q9,A9,q8,l8,l7,E5,C9,G7,IntKind.bits,D6,r9,o7] <;> omega) | assumption) only [a1d,c2m,c1Y,c1o,c2V,c2D,c1i,c2u,c1e,b7x,b7M,b6C,b8k,b6Y,b3g,hlen,a2t,hi,e1,e5,hinc,a0d,bn,un,U0,V5,U6,a1P,J6,I4,J3,X4,Y3,M6,V.e1g,a0t,a0G,a5F]
   refine H6.bindS (hy c _ (by omega) (fun b hb=>?_) _ _) fun x s hq=>?_
   · simp (config:={ maxSteps:=10000000 }) (disch:=first | assumption | omega | (simp only [O1,N8,N7,M9,F8,Nat.reduceMul,Nat.reduceLT,l9,w9,F3,j6,A8,E8,D8,I5,G9,I9,I8,H7,o9,D5,G8,Nat.reduceAdd,D7,E9,Nat.reduceBEq,G5,F9,d9,j5,l6,z8,D9,F7,F5,F4,G6,C8,q9,A9,q8,l8,l7,E5,C9,G7,IntKind.bits,D6,r9,o7] <;> omega) | assumption) only [hh]
   obtain ⟨c',h',r',w'⟩:=s
   simp only at hq
   obtain ⟨rfl,hcc,hhh⟩:=hq
   obtain rfl:=hcc.symm
   obtain rfl:=hhh.symm
   have hpr:a8B ((X,tv,lv)::t)=(a1G X && a8B t):=b5q _ t
   have eP:PLv (X,tv,lv)=.bool (a1G X):=rfl
   have eL:LSv (X,tv,lv)=.string ⟨⟨bcase (a1G X) (R6 X) []⟩⟩:=rfl
   cases hp:a1G X with
   | false=>
     rw [hp] at eL eP hpr
     simp (config:={ maxSteps:=10000000 }) (disch:=first | assumption | omega | (simp only [O1,N8,N7,M9,F8,Nat.reduceMul,Nat.reduceLT,l9,w9,F3,j6,A8,E8,D8,I5,G9,I9,I8,H7,o9,D5,G8,Nat.reduceAdd,D7,E9,Nat.reduceBEq,G5,F9,d9,j5,l6,z8,D9,F7,F5,F4,G6,C8,q9,A9,q8,l8,l7,E5,C9,G7,IntKind.bits,D6,r9,o7] <;> omega) | assumption) only [eP,I5,K3,J4,J3,M6,a5Y,V.e1g,R7]
     exact H6.done ⟨by show c0≤c; omega,fun b hb=>hh b hb,Or.inr ⟨hpr,rfl,rfl⟩⟩
   | true=>
     rw [hp] at eL eP hpr
     have hlen2:=hLx hp
     rw [a9X] at eL
     simp only [I8] at hpr
     have d1:=fun ts=>e0m ts d (by omega)
     rcases b8e X.op with ⟨o2,o3,o4,o5,o11⟩ | ⟨o2,o3,o4,o5,o11⟩ | ⟨o2,o3,o4,o5,o11⟩ | ⟨o2,o3,o4,o5,o11⟩ | ⟨o2,o3,o4,o5,o11⟩ | ⟨o2,o3,o4,o5,o11⟩
     · have o:ind X.op d=(d,d+1):=by unfold ind; rw [o2,o3,o4,o5,o11]; rfl
       have eT:S ++ prT ((X,tv,lv)::t) d=(S ++ [pad (d) (R6 X)]) ++ prT t (d+1):=by
        show S ++ (pad (ind X.op d).1 (R6 X)::prT t (ind X.op d).2)=_
        rw [o]; simp
       rw [hpr,eT]
       simp (config:={ maxSteps:=10000000 }) (disch:=first | assumption | omega | (simp only [O1,N8,N7,M9,F8,Nat.reduceMul,Nat.reduceLT,l9,w9,F3,j6,A8,E8,D8,I5,G9,I9,I8,H7,o9,D5,G8,Nat.reduceAdd,D7,E9,Nat.reduceBEq,G5,F9,d9,j5,l6,z8,D9,F7,F5,F4,G6,C8,q9,A9,q8,l8,l7,E5,C9,G7,IntKind.bits,D6,r9,o7] <;> omega) | assumption) only [eP,G9,e2,e5,e6,o2,o3,o4,o5,o11,d1,hind,mx,a0d,J6,I4,K3,J4,J3,J2,X4,Y3,M6,K6,V.e1g,P8,R7]
       refine H6.bindS (hz c _ (by omega) (fun b hb=>?_) _ _) fun x s hq=>?_
       · simp (config:={ maxSteps:=10000000 }) (disch:=first | assumption | omega | (simp only [O1,N8,N7,M9,F8,Nat.reduceMul,Nat.reduceLT,l9,w9,F3,j6,A8,E8,D8,I5,G9,I9,I8,H7,o9,D5,G8,Nat.reduceAdd,D7,E9,Nat.reduceBEq,G5,F9,d9,j5,l6,z8,D9,F7,F5,F4,G6,C8,q9,A9,q8,l8,l7,E5,C9,G7,IntKind.bits,D6,r9,o7] <;> omega) | assumption) only [hh]
       obtain ⟨c',h',r',w'⟩:=s
       simp only at hq
       obtain ⟨rfl,hcc,hhh⟩:=hq
       obtain rfl:=hcc.symm
       obtain rfl:=hhh.symm
       simp (config:={ maxSteps:=10000000 }) (disch:=first | assumption | omega | (simp only [O1,N8,N7,M9,F8,Nat.reduceMul,Nat.reduceLT,l9,w9,F3,j6,A8,E8,D8,I5,G9,I9,I8,H7,o9,D5,G8,Nat.reduceAdd,D7,E9,Nat.reduceBEq,G5,F9,d9,j5,l6,z8,D9,F7,F5,F4,G6,C8,q9,A9,q8,l8,l7,E5,C9,G7,IntKind.bits,D6,r9,o7] <;> omega) | assumption) only [eL,a0d,J6,J4]
       refine H6.bindS (b0y N call _ (d) (by rfl) (R6 X) hlen2 (by omega) _ _ _ _ (d) 0 N (R6 X) _ _ _ _ _ _ _ (by omega) (by omega) rfl) fun x s hq=>?_
       obtain ⟨x1,x2⟩:=x
       obtain ⟨rfl,rfl,e9⟩:=hq
       simp only at e9
       simp (config:={ maxSteps:=10000000 }) (disch:=first | assumption | omega | (simp only [O1,N8,N7,M9,F8,Nat.reduceMul,Nat.reduceLT,l9,w9,F3,j6,A8,E8,D8,I5,G9,I9,I8,H7,o9,D5,G8,Nat.reduceAdd,D7,E9,Nat.reduceBEq,G5,F9,d9,j5,l6,z8,D9,F7,F5,F4,G6,C8,q9,A9,q8,l8,l7,E5,C9,G7,IntKind.bits,D6,r9,o7] <;> omega) | assumption) only [e9,D7,J3,a0d,J6,I4,J3,K6,a2N,V.e1g,d9,T9,R9,U9,P5,O5,l9,w9,j6,H7,R8,M5,K9,M0]
       refine H6.bindS (a5v (S:=S) (HO.mono (by omega) (fun b hb=>?_)) c (pad (d) (R6 X)) ?_ (by omega) (by omega) (by omega) _ _) fun x s hq=>?_
       · simp (config:={ maxSteps:=10000000 }) (disch:=first | assumption | omega | (simp only [O1,N8,N7,M9,F8,Nat.reduceMul,Nat.reduceLT,l9,w9,F3,j6,A8,E8,D8,I5,G9,I9,I8,H7,o9,D5,G8,Nat.reduceAdd,D7,E9,Nat.reduceBEq,G5,F9,d9,j5,l6,z8,D9,F7,F5,F4,G6,C8,q9,A9,q8,l8,l7,E5,C9,G7,IntKind.bits,D6,r9,o7] <;> omega) | assumption) only [F6]
       · simp (config:={ maxSteps:=10000000 }) (disch:=first | assumption | omega | (simp only [O1,N8,N7,M9,F8,Nat.reduceMul,Nat.reduceLT,l9,w9,F3,j6,A8,E8,D8,I5,G9,I9,I8,H7,o9,D5,G8,Nat.reduceAdd,D7,E9,Nat.reduceBEq,G5,F9,d9,j5,l6,z8,D9,F7,F5,F4,G6,C8,q9,A9,q8,l8,l7,E5,C9,G7,IntKind.bits,D6,r9,o7] <;> omega) | assumption) only [I6]
       · obtain ⟨hO2,hc2,hf2⟩:=hq
         obtain ⟨c2,h2,r2,w2⟩:=s
         simp only at hO2 hc2 hf2
         refine ih (i+1) k (d+1) (S ++ [pad (d) (R6 X)]) x _ _ _ _ _ _ _ _ _ _ _ _ _ _ _ _ _ _ _ _ _ _ _ _ _ _ _ _ _ _ _ _ _ _ _ _ _ _ _ _ _ _ _ _ _ _ _ _ _ _ _ _ _ _ c2 h2 _ _ hd' (by simp at hk; omega) (by omega) (by rw [List.length_append,hS]; rfl) (by omega) (fun b hb=>?_) hO2
         rw [hf2 b hb]
         simp (config:={ maxSteps:=10000000 }) (disch:=first | assumption | omega | (simp only [O1,N8,N7,M9,F8,Nat.reduceMul,Nat.reduceLT,l9,w9,F3,j6,A8,E8,D8,I5,G9,I9,I8,H7,o9,D5,G8,Nat.reduceAdd,D7,E9,Nat.reduceBEq,G5,F9,d9,j5,l6,z8,D9,F7,F5,F4,G6,C8,q9,A9,q8,l8,l7,E5,C9,G7,IntKind.bits,D6,r9,o7] <;> omega) | assumption) only [F6,hh]
     · have o:ind X.op d=(d,d+1):=by unfold ind; rw [o2,o3,o4,o5,o11]; rfl
       have eT:S ++ prT ((X,tv,lv)::t) d=(S ++ [pad (d) (R6 X)]) ++ prT t (d+1):=by
        show S ++ (pad (ind X.op d).1 (R6 X)::prT t (ind X.op d).2)=_
        rw [o]; simp
       rw [hpr,eT]
       simp (config:={ maxSteps:=10000000 }) (disch:=first | assumption | omega | (simp only [O1,N8,N7,M9,F8,Nat.reduceMul,Nat.reduceLT,l9,w9,F3,j6,A8,E8,D8,I5,G9,I9,I8,H7,o9,D5,G8,Nat.reduceAdd,D7,E9,Nat.reduceBEq,G5,F9,d9,j5,l6,z8,D9,F7,F5,F4,G6,C8,q9,A9,q8,l8,l7,E5,C9,G7,IntKind.bits,D6,r9,o7] <;> omega) | assumption) only [eP,G9,e2,e5,e6,o2,o3,o4,o5,o11,d1,hind,mx,a0d,J6,I4,K3,J4,J3,J2,X4,Y3,M6,K6,V.e1g,P8,R7]
       refine H6.bindS (hz c _ (by omega) (fun b hb=>?_) _ _) fun x s hq=>?_
       · simp (config:={ maxSteps:=10000000 }) (disch:=first | assumption | omega | (simp only [O1,N8,N7,M9,F8,Nat.reduceMul,Nat.reduceLT,l9,w9,F3,j6,A8,E8,D8,I5,G9,I9,I8,H7,o9,D5,G8,Nat.reduceAdd,D7,E9,Nat.reduceBEq,G5,F9,d9,j5,l6,z8,D9,F7,F5,F4,G6,C8,q9,A9,q8,l8,l7,E5,C9,G7,IntKind.bits,D6,r9,o7] <;> omega) | assumption) only [hh]
       obtain ⟨c',h',r',w'⟩:=s
       simp only at hq
       obtain ⟨rfl,hcc,hhh⟩:=hq
       obtain rfl:=hcc.symm
       obtain rfl:=hhh.symm
       simp (config:={ maxSteps:=10000000 }) (disch:=first | assumption | omega | (simp only [O1,N8,N7,M9,F8,Nat.reduceMul,Nat.reduceLT,l9,w9,F3,j6,A8,E8,D8,I5,G9,I9,I8,H7,o9,D5,G8,Nat.reduceAdd,D7,E9,Nat.reduceBEq,G5,F9,d9,j5,l6,z8,D9,F7,F5,F4,G6,C8,q9,A9,q8,l8,l7,E5,C9,G7,IntKind.bits,D6,r9,o7] <;> omega) | assumption) only [eL,a0d,J6,J4]
       refine H6.bindS (b0y N call _ (d) (by rfl) (R6 X) hlen2 (by omega) _ _ _ _ (d) 0 N (R6 X) _ _ _ _ _ _ _ (by omega) (by omega) rfl) fun x s hq=>?_
       obtain ⟨x1,x2⟩:=x
       obtain ⟨rfl,rfl,e9⟩:=hq
       simp only at e9
       simp (config:={ maxSteps:=10000000 }) (disch:=first | assumption | omega | (simp only [O1,N8,N7,M9,F8,Nat.reduceMul,Nat.reduceLT,l9,w9,F3,j6,A8,E8,D8,I5,G9,I9,I8,H7,o9,D5,G8,Nat.reduceAdd,D7,E9,Nat.reduceBEq,G5,F9,d9,j5,l6,z8,D9,F7,F5,F4,G6,C8,q9,A9,q8,l8,l7,E5,C9,G7,IntKind.bits,D6,r9,o7] <;> omega) | assumption) only [e9,D7,J3,a0d,J6,I4,J3,K6,a2N,V.e1g,d9,T9,R9,U9,P5,O5,l9,w9,j6,H7,R8,M5,K9,M0]
       refine H6.bindS (a5v (S:=S) (HO.mono (by omega) (fun b hb=>?_)) c (pad (d) (R6 X)) ?_ (by omega) (by omega) (by omega) _ _) fun x s hq=>?_
       · simp (config:={ maxSteps:=10000000 }) (disch:=first | assumption | omega | (simp only [O1,N8,N7,M9,F8,Nat.reduceMul,Nat.reduceLT,l9,w9,F3,j6,A8,E8,D8,I5,G9,I9,I8,H7,o9,D5,G8,Nat.reduceAdd,D7,E9,Nat.reduceBEq,G5,F9,d9,j5,l6,z8,D9,F7,F5,F4,G6,C8,q9,A9,q8,l8,l7,E5,C9,G7,IntKind.bits,D6,r9,o7] <;> omega) | assumption) only [F6]
       · simp (config:={ maxSteps:=10000000 }) (disch:=first | assumption | omega | (simp only [O1,N8,N7,M9,F8,Nat.reduceMul,Nat.reduceLT,l9,w9,F3,j6,A8,E8,D8,I5,G9,I9,I8,H7,o9,D5,G8,Nat.reduceAdd,D7,E9,Nat.reduceBEq,G5,F9,d9,j5,l6,z8,D9,F7,F5,F4,G6,C8,q9,A9,q8,l8,l7,E5,C9,G7,IntKind.bits,D6,r9,o7] <;> omega) | assumption) only [I6]
       · obtain ⟨hO2,hc2,hf2⟩:=hq
         obtain ⟨c2,h2,r2,w2⟩:=s
         simp only at hO2 hc2 hf2
         refine ih (i+1) k (d+1) (S ++ [pad (d) (R6 X)]) x _ _ _ _ _ _ _ _ _ _ _ _ _ _ _ _ _ _ _ _ _ _ _ _ _ _ _ _ _ _ _ _ _ _ _ _ _ _ _ _ _ _ _ _ _ _ _ _ _ _ _ _ _ _ c2 h2 _ _ hd' (by simp at hk; omega) (by omega) (by rw [List.length_append,hS]; rfl) (by omega) (fun b hb=>?_) hO2
         rw [hf2 b hb]
         simp (config:={ maxSteps:=10000000 }) (disch:=first | assumption | omega | (simp only [O1,N8,N7,M9,F8,Nat.reduceMul,Nat.reduceLT,l9,w9,F3,j6,A8,E8,D8,I5,G9,I9,I8,H7,o9,D5,G8,Nat.reduceAdd,D7,E9,Nat.reduceBEq,G5,F9,d9,j5,l6,z8,D9,F7,F5,F4,G6,C8,q9,A9,q8,l8,l7,E5,C9,G7,IntKind.bits,D6,r9,o7] <;> omega) | assumption) only [F6,hh]
     · have o:ind X.op d=(d,d+1):=by unfold ind; rw [o2,o3,o4,o5,o11]; rfl
       have eT:S ++ prT ((X,tv,lv)::t) d=(S ++ [pad (d) (R6 X)]) ++ prT t (d+1):=by
        show S ++ (pad (ind X.op d).1 (R6 X)::prT t (ind X.op d).2)=_
        rw [o]; simp
       rw [hpr,eT]
       simp (config:={ maxSteps:=10000000 }) (disch:=first | assumption | omega | (simp only [O1,N8,N7,M9,F8,Nat.reduceMul,Nat.reduceLT,l9,w9,F3,j6,A8,E8,D8,I5,G9,I9,I8,H7,o9,D5,G8,Nat.reduceAdd,D7,E9,Nat.reduceBEq,G5,F9,d9,j5,l6,z8,D9,F7,F5,F4,G6,C8,q9,A9,q8,l8,l7,E5,C9,G7,IntKind.bits,D6,r9,o7] <;> omega) | assumption) only [eP,G9,e2,e5,e6,o2,o3,o4,o5,o11,d1,hind,mx,a0d,J6,I4,K3,J4,J3,J2,X4,Y3,M6,K6,V.e1g,P8,R7]
       refine H6.bindS (hz c _ (by omega) (fun b hb=>?_) _ _) fun x s hq=>?_
       · simp (config:={ maxSteps:=10000000 }) (disch:=first | assumption | omega | (simp only [O1,N8,N7,M9,F8,Nat.reduceMul,Nat.reduceLT,l9,w9,F3,j6,A8,E8,D8,I5,G9,I9,I8,H7,o9,D5,G8,Nat.reduceAdd,D7,E9,Nat.reduceBEq,G5,F9,d9,j5,l6,z8,D9,F7,F5,F4,G6,C8,q9,A9,q8,l8,l7,E5,C9,G7,IntKind.bits,D6,r9,o7] <;> omega) | assumption) only [hh]
       obtain ⟨c',h',r',w'⟩:=s
       simp only at hq
       obtain ⟨rfl,hcc,hhh⟩:=hq
       obtain rfl:=hcc.symm
       obtain rfl:=hhh.symm
       simp (config:={ maxSteps:=10000000 }) (disch:=first | assumption | omega | (simp only [O1,N8,N7,M9,F8,Nat.reduceMul,Nat.reduceLT,l9,w9,F3,j6,A8,E8,D8,I5,G9,I9,I8,H7,o9,D5,G8,Nat.reduceAdd,D7,E9,Nat.reduceBEq,G5,F9,d9,j5,l6,z8,D9,F7,F5,F4,G6,C8,q9,A9,q8,l8,l7,E5,C9,G7,IntKind.bits,D6,r9,o7] <;> omega) | assumption) only [eL,a0d,J6,J4]
       refine H6.bindS (b0y N call _ (d) (by rfl) (R6 X) hlen2 (by omega) _ _ _ _ (d) 0 N (R6 X) _ _ _ _ _ _ _ (by omega) (by omega) rfl) fun x s hq=>?_
       obtain ⟨x1,x2⟩:=x
       obtain ⟨rfl,rfl,e9⟩:=hq
       simp only at e9
       simp (config:={ maxSteps:=10000000 }) (disch:=first | assumption | omega | (simp only [O1,N8,N7,M9,F8,Nat.reduceMul,Nat.reduceLT,l9,w9,F3,j6,A8,E8,D8,I5,G9,I9,I8,H7,o9,D5,G8,Nat.reduceAdd,D7,E9,Nat.reduceBEq,G5,F9,d9,j5,l6,z8,D9,F7,F5,F4,G6,C8,q9,A9,q8,l8,l7,E5,C9,G7,IntKind.bits,D6,r9,o7] <;> omega) | assumption) only [e9,D7,J3,a0d,J6,I4,J3,K6,a2N,V.e1g,d9,T9,R9,U9,P5,O5,l9,w9,j6,H7,R8,M5,K9,M0]
       refine H6.bindS (a5v (S:=S) (HO.mono (by omega) (fun b hb=>?_)) c (pad (d) (R6 X)) ?_ (by omega) (by omega) (by omega) _ _) fun x s hq=>?_
       · simp (config:={ maxSteps:=10000000 }) (disch:=first | assumption | omega | (simp only [O1,N8,N7,M9,F8,Nat.reduceMul,Nat.reduceLT,l9,w9,F3,j6,A8,E8,D8,I5,G9,I9,I8,H7,o9,D5,G8,Nat.reduceAdd,D7,E9,Nat.reduceBEq,G5,F9,d9,j5,l6,z8,D9,F7,F5,F4,G6,C8,q9,A9,q8,l8,l7,E5,C9,G7,IntKind.bits,D6,r9,o7] <;> omega) | assumption) only [F6]
       · simp (config:={ maxSteps:=10000000 }) (disch:=first | assumption | omega | (simp only [O1,N8,N7,M9,F8,Nat.reduceMul,Nat.reduceLT,l9,w9,F3,j6,A8,E8,D8,I5,G9,I9,I8,H7,o9,D5,G8,Nat.reduceAdd,D7,E9,Nat.reduceBEq,G5,F9,d9,j5,l6,z8,D9,F7,F5,F4,G6,C8,q9,A9,q8,l8,l7,E5,C9,G7,IntKind.bits,D6,r9,o7] <;> omega) | assumption) only [I6]
       · obtain ⟨hO2,hc2,hf2⟩:=hq
         obtain ⟨c2,h2,r2,w2⟩:=s
         simp only at hO2 hc2 hf2
         refine ih (i+1) k (d+1) (S ++ [pad (d) (R6 X)]) x _ _ _ _ _ _ _ _ _ _ _ _ _ _ _ _ _ _ _ _ _ _ _ _ _ _ _ _ _ _ _ _ _ _ _ _ _ _ _ _ _ _ _ _ _ _ _ _ _ _ _ _ _ _ c2 h2 _ _ hd' (by simp at hk; omega) (by omega) (by rw [List.length_append,hS]; rfl) (by omega) (fun b hb=>?_) hO2
         rw [hf2 b hb]
         simp (config:={ maxSteps:=10000000 }) (disch:=first | assumption | omega | (simp only [O1,N8,N7,M9,F8,Nat.reduceMul,Nat.reduceLT,l9,w9,F3,j6,A8,E8,D8,I5,G9,I9,I8,H7,o9,D5,G8,Nat.reduceAdd,D7,E9,Nat.reduceBEq,G5,F9,d9,j5,l6,z8,D9,F7,F5,F4,G6,C8,q9,A9,q8,l8,l7,E5,C9,G7,IntKind.bits,D6,r9,o7] <;> omega) | assumption) only [F6,hh]
     · have o:ind X.op d=(d - 1,d):=by unfold ind; rw [o2,o3,o4,o5,o11]; rfl
       have eT:S ++ prT ((X,tv,lv)::t) d=(S ++ [pad (d - 1) (R6 X)]) ++ prT t (d):=by
        show S ++ (pad (ind X.op d).1 (R6 X)::prT t (ind X.op d).2)=_
        rw [o]; simp
       rw [hpr,eT]
       simp (config:={ maxSteps:=10000000 }) (disch:=first | assumption | omega | (simp only [O1,N8,N7,M9,F8,Nat.reduceMul,Nat.reduceLT,l9,w9,F3,j6,A8,E8,D8,I5,G9,I9,I8,H7,o9,D5,G8,Nat.reduceAdd,D7,E9,Nat.reduceBEq,G5,F9,d9,j5,l6,z8,D9,F7,F5,F4,G6,C8,q9,A9,q8,l8,l7,E5,C9,G7,IntKind.bits,D6,r9,o7] <;> omega) | assumption) only [eP,G9,e2,e5,e6,o2,o3,o4,o5,o11,d1,hind,mx,a0d,J6,I4,K3,J4,J3,J2,X4,Y3,M6,K6,V.e1g,P8,R7]
       refine H6.bindS (hz c _ (by omega) (fun b hb=>?_) _ _) fun x s hq=>?_
       · simp (config:={ maxSteps:=10000000 }) (disch:=first | assumption | omega | (simp only [O1,N8,N7,M9,F8,Nat.reduceMul,Nat.reduceLT,l9,w9,F3,j6,A8,E8,D8,I5,G9,I9,I8,H7,o9,D5,G8,Nat.reduceAdd,D7,E9,Nat.reduceBEq,G5,F9,d9,j5,l6,z8,D9,F7,F5,F4,G6,C8,q9,A9,q8,l8,l7,E5,C9,G7,IntKind.bits,D6,r9,o7] <;> omega) | assumption) only [hh]
       obtain ⟨c',h',r',w'⟩:=s
       simp only at hq
       obtain ⟨rfl,hcc,hhh⟩:=hq
       obtain rfl:=hcc.symm
       obtain rfl:=hhh.symm
       simp (config:={ maxSteps:=10000000 }) (disch:=first | assumption | omega | (simp only [O1,N8,N7,M9,F8,Nat.reduceMul,Nat.reduceLT,l9,w9,F3,j6,A8,E8,D8,I5,G9,I9,I8,H7,o9,D5,G8,Nat.reduceAdd,D7,E9,Nat.reduceBEq,G5,F9,d9,j5,l6,z8,D9,F7,F5,F4,G6,C8,q9,A9,q8,l8,l7,E5,C9,G7,IntKind.bits,D6,r9,o7] <;> omega) | assumption) only [eL,a0d,J6,J4]
       refine H6.bindS (b0y N call _ (d - 1) (by rfl) (R6 X) hlen2 (by omega) _ _ _ _ (d - 1) 0 N (R6 X) _ _ _ _ _ _ _ (by omega) (by omega) rfl) fun x s hq=>?_
       obtain ⟨x1,x2⟩:=x
       obtain ⟨rfl,rfl,e9⟩:=hq
       simp only at e9
       simp (config:={ maxSteps:=10000000 }) (disch:=first | assumption | omega | (simp only [O1,N8,N7,M9,F8,Nat.reduceMul,Nat.reduceLT,l9,w9,F3,j6,A8,E8,D8,I5,G9,I9,I8,H7,o9,D5,G8,Nat.reduceAdd,D7,E9,Nat.reduceBEq,G5,F9,d9,j5,l6,z8,D9,F7,F5,F4,G6,C8,q9,A9,q8,l8,l7,E5,C9,G7,IntKind.bits,D6,r9,o7] <;> omega) | assumption) only [e9,D7,J3,a0d,J6,I4,J3,K6,a2N,V.e1g,d9,T9,R9,U9,P5,O5,l9,w9,j6,H7,R8,M5,K9,M0]
       refine H6.bindS (a5v (S:=S) (HO.mono (by omega) (fun b hb=>?_)) c (pad (d - 1) (R6 X)) ?_ (by omega) (by omega) (by omega) _ _) fun x s hq=>?_
       · simp (config:={ maxSteps:=10000000 }) (disch:=first | assumption | omega | (simp only [O1,N8,N7,M9,F8,Nat.reduceMul,Nat.reduceLT,l9,w9,F3,j6,A8,E8,D8,I5,G9,I9,I8,H7,o9,D5,G8,Nat.reduceAdd,D7,E9,Nat.reduceBEq,G5,F9,d9,j5,l6,z8,D9,F7,F5,F4,G6,C8,q9,A9,q8,l8,l7,E5,C9,G7,IntKind.bits,D6,r9,o7] <;> omega) | assumption) only [F6]
       · simp (config:={ maxSteps:=10000000 }) (disch:=first | assumption | omega | (simp only [O1,N8,N7,M9,F8,Nat.reduceMul,Nat.reduceLT,l9,w9,F3,j6,A8,E8,D8,I5,G9,I9,I8,H7,o9,D5,G8,Nat.reduceAdd,D7,E9,Nat.reduceBEq,G5,F9,d9,j5,l6,z8,D9,F7,F5,F4,G6,C8,q9,A9,q8,l8,l7,E5,C9,G7,IntKind.bits,D6,r9,o7] <;> omega) | assumption) only [I6]
       · obtain ⟨hO2,hc2,hf2⟩:=hq
         obtain ⟨c2,h2,r2,w2⟩:=s
         simp only at hO2 hc2 hf2
         refine ih (i+1) k (d) (S ++ [pad (d - 1) (R6 X)]) x _ _ _ _ _ _ _ _ _ _ _ _ _ _ _ _ _ _ _ _ _ _ _ _ _ _ _ _ _ _ _ _ _ _ _ _ _ _ _ _ _ _ _ _ _ _ _ _ _ _ _ _ _ _ c2 h2 _ _ hd' (by simp at hk; omega) (by omega) (by rw [List.length_append,hS]; rfl) (by omega) (fun b hb=>?_) hO2
         rw [hf2 b hb]
         simp (config:={ maxSteps:=10000000 }) (disch:=first | assumption | omega | (simp only [O1,N8,N7,M9,F8,Nat.reduceMul,Nat.reduceLT,l9,w9,F3,j6,A8,E8,D8,I5,G9,I9,I8,H7,o9,D5,G8,Nat.reduceAdd,D7,E9,Nat.reduceBEq,G5,F9,d9,j5,l6,z8,D9,F7,F5,F4,G6,C8,q9,A9,q8,l8,l7,E5,C9,G7,IntKind.bits,D6,r9,o7] <;> omega) | assumption) only [F6,hh]
     · have o:ind X.op d=(d - 1,d - 1):=by unfold ind; rw [o2,o3,o4,o5,o11]; rfl
       have eT:S ++ prT ((X,tv,lv)::t) d=(S ++ [pad (d - 1) (R6 X)]) ++ prT t (d - 1):=by
        show S ++ (pad (ind X.op d).1 (R6 X)::prT t (ind X.op d).2)=_
        rw [o]; simp
       rw [hpr,eT]
       simp (config:={ maxSteps:=10000000 }) (disch:=first | assumption | omega | (simp only [O1,N8,N7,M9,F8,Nat.reduceMul,Nat.reduceLT,l9,w9,F3,j6,A8,E8,D8,I5,G9,I9,I8,H7,o9,D5,G8,Nat.reduceAdd,D7,E9,Nat.reduceBEq,G5,F9,d9,j5,l6,z8,D9,F7,F5,F4,G6,C8,q9,A9,q8,l8,l7,E5,C9,G7,IntKind.bits,D6,r9,o7] <;> omega) | assumption) only [eP,G9,e2,e5,e6,o2,o3,o4,o5,o11,d1,hind,mx,a0d,J6,I4,K3,J4,J3,J2,X4,Y3,M6,K6,V.e1g,P8,R7]
       refine H6.bindS (hz c _ (by omega) (fun b hb=>?_) _ _) fun x s hq=>?_
       · simp (config:={ maxSteps:=10000000 }) (disch:=first | assumption | omega | (simp only [O1,N8,N7,M9,F8,Nat.reduceMul,Nat.reduceLT,l9,w9,F3,j6,A8,E8,D8,I5,G9,I9,I8,H7,o9,D5,G8,Nat.reduceAdd,D7,E9,Nat.reduceBEq,G5,F9,d9,j5,l6,z8,D9,F7,F5,F4,G6,C8,q9,A9,q8,l8,l7,E5,C9,G7,IntKind.bits,D6,r9,o7] <;> omega) | assumption) only [hh]
       obtain ⟨c',h',r',w'⟩:=s
       simp only at hq
       obtain ⟨rfl,hcc,hhh⟩:=hq
       obtain rfl:=hcc.symm
       obtain rfl:=hhh.symm
       simp (config:={ maxSteps:=10000000 }) (disch:=first | assumption | omega | (simp only [O1,N8,N7,M9,F8,Nat.reduceMul,Nat.reduceLT,l9,w9,F3,j6,A8,E8,D8,I5,G9,I9,I8,H7,o9,D5,G8,Nat.reduceAdd,D7,E9,Nat.reduceBEq,G5,F9,d9,j5,l6,z8,D9,F7,F5,F4,G6,C8,q9,A9,q8,l8,l7,E5,C9,G7,IntKind.bits,D6,r9,o7] <;> omega) | assumption) only [eL,a0d,J6,J4]
       refine H6.bindS (b0y N call _ (d - 1) (by rfl) (R6 X) hlen2 (by omega) _ _ _ _ (d - 1) 0 N (R6 X) _ _ _ _ _ _ _ (by omega) (by omega) rfl) fun x s hq=>?_
       obtain ⟨x1,x2⟩:=x
       obtain ⟨rfl,rfl,e9⟩:=hq
       simp only at e9
       simp (config:={ maxSteps:=10000000 }) (disch:=first | assumption | omega | (simp only [O1,N8,N7,M9,F8,Nat.reduceMul,Nat.reduceLT,l9,w9,F3,j6,A8,E8,D8,I5,G9,I9,I8,H7,o9,D5,G8,Nat.reduceAdd,D7,E9,Nat.reduceBEq,G5,F9,d9,j5,l6,z8,D9,F7,F5,F4,G6,C8,q9,A9,q8,l8,l7,E5,C9,G7,IntKind.bits,D6,r9,o7] <;> omega) | assumption) only [e9,D7,J3,a0d,J6,I4,J3,K6,a2N,V.e1g,d9,T9,R9,U9,P5,O5,l9,w9,j6,H7,R8,M5,K9,M0]
       refine H6.bindS (a5v (S:=S) (HO.mono (by omega) (fun b hb=>?_)) c (pad (d - 1) (R6 X)) ?_ (by omega) (by omega) (by omega) _ _) fun x s hq=>?_
       · simp (config:={ maxSteps:=10000000 }) (disch:=first | assumption | omega | (simp only [O1,N8,N7,M9,F8,Nat.reduceMul,Nat.reduceLT,l9,w9,F3,j6,A8,E8,D8,I5,G9,I9,I8,H7,o9,D5,G8,Nat.reduceAdd,D7,E9,Nat.reduceBEq,G5,F9,d9,j5,l6,z8,D9,F7,F5,F4,G6,C8,q9,A9,q8,l8,l7,E5,C9,G7,IntKind.bits,D6,r9,o7] <;> omega) | assumption) only [F6]
       · simp (config:={ maxSteps:=10000000 }) (disch:=first | assumption | omega | (simp only [O1,N8,N7,M9,F8,Nat.reduceMul,Nat.reduceLT,l9,w9,F3,j6,A8,E8,D8,I5,G9,I9,I8,H7,o9,D5,G8,Nat.reduceAdd,D7,E9,Nat.reduceBEq,G5,F9,d9,j5,l6,z8,D9,F7,F5,F4,G6,C8,q9,A9,q8,l8,l7,E5,C9,G7,IntKind.bits,D6,r9,o7] <;> omega) | assumption) only [I6]
       · obtain ⟨hO2,hc2,hf2⟩:=hq
         obtain ⟨c2,h2,r2,w2⟩:=s
         simp only at hO2 hc2 hf2
         refine ih (i+1) k (d - 1) (S ++ [pad (d - 1) (R6 X)]) x _ _ _ _ _ _ _ _ _ _ _ _ _ _ _ _ _ _ _ _ _ _ _ _ _ _ _ _ _ _ _ _ _ _ _ _ _ _ _ _ _ _ _ _ _ _ _ _ _ _ _ _ _ _ c2 h2 _ _ hd' (by simp at hk; omega) (by omega) (by rw [List.length_append,hS]; rfl) (by omega) (fun b hb=>?_) hO2
         rw [hf2 b hb]
         simp (config:={ maxSteps:=10000000 }) (disch:=first | assumption | omega | (simp only [O1,N8,N7,M9,F8,Nat.reduceMul,Nat.reduceLT,l9,w9,F3,j6,A8,E8,D8,I5,G9,I9,I8,H7,o9,D5,G8,Nat.reduceAdd,D7,E9,Nat.reduceBEq,G5,F9,d9,j5,l6,z8,D9,F7,F5,F4,G6,C8,q9,A9,q8,l8,l7,E5,C9,G7,IntKind.bits,D6,r9,o7] <;> omega) | assumption) only [F6,hh]
     · have o:ind X.op d=(d,d):=by unfold ind; rw [o2,o3,o4,o5,o11]; rfl
       have eT:S ++ prT ((X,tv,lv)::t) d=(S ++ [pad (d) (R6 X)]) ++ prT t (d):=by
        show S ++ (pad (ind X.op d).1 (R6 X)::prT t (ind X.op d).2)=_
        rw [o]; simp
       rw [hpr,eT]
       simp (config:={ maxSteps:=10000000 }) (disch:=first | assumption | omega | (simp only [O1,N8,N7,M9,F8,Nat.reduceMul,Nat.reduceLT,l9,w9,F3,j6,A8,E8,D8,I5,G9,I9,I8,H7,o9,D5,G8,Nat.reduceAdd,D7,E9,Nat.reduceBEq,G5,F9,d9,j5,l6,z8,D9,F7,F5,F4,G6,C8,q9,A9,q8,l8,l7,E5,C9,G7,IntKind.bits,D6,r9,o7] <;> omega) | assumption) only [eP,G9,e2,e5,e6,o2,o3,o4,o5,o11,d1,hind,mx,a0d,J6,I4,K3,J4,J2,X4,Y3,M6,K6,V.e1g,P8,R7]
       refine H6.bindS (hz c _ (by omega) (fun b hb=>?_) _ _) fun x s hq=>?_
       · simp (config:={ maxSteps:=10000000 }) (disch:=first | assumption | omega | (simp only [O1,N8,N7,M9,F8,Nat.reduceMul,Nat.reduceLT,l9,w9,F3,j6,A8,E8,D8,I5,G9,I9,I8,H7,o9,D5,G8,Nat.reduceAdd,D7,E9,Nat.reduceBEq,G5,F9,d9,j5,l6,z8,D9,F7,F5,F4,G6,C8,q9,A9,q8,l8,l7,E5,C9,G7,IntKind.bits,D6,r9,o7] <;> omega) | assumption) only [hh]
       obtain ⟨c',h',r',w'⟩:=s
       simp only at hq
       obtain ⟨rfl,hcc,hhh⟩:=hq
       obtain rfl:=hcc.symm
       obtain rfl:=hhh.symm
       simp (config:={ maxSteps:=10000000 }) (disch:=first | assumption | omega | (simp only [O1,N8,N7,M9,F8,Nat.reduceMul,Nat.reduceLT,l9,w9,F3,j6,A8,E8,D8,I5,G9,I9,I8,H7,o9,D5,G8,Nat.reduceAdd,D7,E9,Nat.reduceBEq,G5,F9,d9,j5,l6,z8,D9,F7,F5,F4,G6,C8,q9,A9,q8,l8,l7,E5,C9,G7,IntKind.bits,D6,r9,o7] <;> omega) | assumption) only [eL,a0d,J6,J4]
       refine H6.bindS (b0y N call _ (d) (by rfl) (R6 X) hlen2 (by omega) _ _ _ _ (d) 0 N (R6 X) _ _ _ _ _ _ _ (by omega) (by omega) rfl) fun x s hq=>?_
       obtain ⟨x1,x2⟩:=x
       obtain ⟨rfl,rfl,e9⟩:=hq
       simp only at e9
       simp (config:={ maxSteps:=10000000 }) (disch:=first | assumption | omega | (simp only [O1,N8,N7,M9,F8,Nat.reduceMul,Nat.reduceLT,l9,w9,F3,j6,A8,E8,D8,I5,G9,I9,I8,H7,o9,D5,G8,Nat.reduceAdd,D7,E9,Nat.reduceBEq,G5,F9,d9,j5,l6,z8,D9,F7,F5,F4,G6,C8,q9,A9,q8,l8,l7,E5,C9,G7,IntKind.bits,D6,r9,o7] <;> omega) | assumption) only [e9,D7,J3,a0d,J6,I4,J3,K6,a2N,V.e1g,d9,T9,R9,U9,P5,O5,l9,w9,j6,H7,R8,M5,K9,M0]
       refine H6.bindS (a5v (S:=S) (HO.mono (by omega) (fun b hb=>?_)) c (pad (d) (R6 X)) ?_ (by omega) (by omega) (by omega) _ _) fun x s hq=>?_
       · simp (config:={ maxSteps:=10000000 }) (disch:=first | assumption | omega | (simp only [O1,N8,N7,M9,F8,Nat.reduceMul,Nat.reduceLT,l9,w9,F3,j6,A8,E8,D8,I5,G9,I9,I8,H7,o9,D5,G8,Nat.reduceAdd,D7,E9,Nat.reduceBEq,G5,F9,d9,j5,l6,z8,D9,F7,F5,F4,G6,C8,q9,A9,q8,l8,l7,E5,C9,G7,IntKind.bits,D6,r9,o7] <;> omega) | assumption) only [F6]
       · simp (config:={ maxSteps:=10000000 }) (disch:=first | assumption | omega | (simp only [O1,N8,N7,M9,F8,Nat.reduceMul,Nat.reduceLT,l9,w9,F3,j6,A8,E8,D8,I5,G9,I9,I8,H7,o9,D5,G8,Nat.reduceAdd,D7,E9,Nat.reduceBEq,G5,F9,d9,j5,l6,z8,D9,F7,F5,F4,G6,C8,q9,A9,q8,l8,l7,E5,C9,G7,IntKind.bits,D6,r9,o7] <;> omega) | assumption) only [I6]
       · obtain ⟨hO2,hc2,hf2⟩:=hq
         obtain ⟨c2,h2,r2,w2⟩:=s
         simp only at hO2 hc2 hf2
         refine ih (i+1) k (d) (S ++ [pad (d) (R6 X)]) x _ _ _ _ _ _ _ _ _ _ _ _ _ _ _ _ _ _ _ _ _ _ _ _ _ _ _ _ _ _ _ _ _ _ _ _ _ _ _ _ _ _ _ _ _ _ _ _ _ _ _ _ _ _ c2 h2 _ _ hd' (by simp at hk; omega) (by omega) (by rw [List.length_append,hS]; rfl) (by omega) (fun b hb=>?_) hO2
         rw [hf2 b hb]
         simp (config:={ maxSteps:=10000000 }) (disch:=first | assumption | omega | (simp only [O1,N8,N7,M9,F8,Nat.reduceMul,Nat.reduceLT,l9,w9,F3,j6,A8,E8,D8,I5,G9,I9,I8,H7,o9,D5,G8,Nat.reduceAdd,D7,E9,Nat.reduceBEq,G5,F9,d9,j5,l6,z8,D9,F7,F5,F4,G6,C8,q9,A9,q8,l8,l7,E5,C9,G7,IntKind.bits,D6,r9,o7] <;> omega) | assumption) only [F6,hh]
end Go.Proofs.YtmomonnlmbljoaaGreatDoor
end
