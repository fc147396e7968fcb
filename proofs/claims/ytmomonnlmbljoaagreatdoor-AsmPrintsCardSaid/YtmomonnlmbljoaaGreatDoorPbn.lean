import Derived.Test.YtmomonnlmbljoaaGreatDoorPbm
section
namespace Go.Proofs.YtmomonnlmbljoaaGreatDoor
open Go.V Go.RowKit Go.Shelf Go.Proofs
set_option maxRecDepth 1000000
set_option maxHeartbeats 4000000
set_option linter.unusedVariables false
attribute [local congr] U8 U7 Y8 Z0 a0i a0h a1V
variable {mL:Int}
def a9k (c0 c:Nat) (h:Trie VObj) (u:Value) (S:List (List UInt8)):Prop:=(S=[]∧u=.slice none 0 0)∨∃ ab g cs,S≠[]∧u=.slice (some ⟨ab, 0,some g⟩) S.length 1∧c0≤ab∧ab<c∧h.get ab=some (.cells cs g false)∧Y0 g cs S.length=some (S.map a6s)∧L9 cs=S.length
theorem a9k.mono {c0 c c':Nat} {h h':Trie VObj} {u:Value} {S:List (List UInt8)} (H:a9k c0 c h u S) (hc:c≤c') (hh:∀ b,b<c→h'.get b=h.get b):a9k c0 c' h' u S:=by
 rcases H with q | ⟨ab,g,cs,h0,h1,h2,h3,h4,h5,h6⟩
 · exact Or.inl q
 · exact Or.inr ⟨ab,g,cs,h0,h1,h2,by omega,(hh ab h3).trans h4,h5,h6⟩
theorem a9k.slv {c0 c:Nat} {h:Trie VObj} {u:Value} {S:List (List UInt8)} (H:a9k c0 c h u S):Q6 c h u (S.map a6s):=by
 rcases H with ⟨rfl,rfl⟩ | ⟨ab,g,cs,h0,rfl,h2,h3,h4,h5,h6⟩
 · exact ⟨none, 0,rfl,Or.inl rfl⟩
 · exact ⟨some ⟨ab, 0,some g⟩, 1,by rw [List.length_map],Or.inr ⟨ab, 0,g,cs,g,false,rfl,rfl,h3,h4,by rw [O6,List.length_map]; exact h5⟩⟩
theorem a5v {c0 c:Nat} {h:Trie VObj} {u:Value} {S:List (List UInt8)} (H:a9k c0 c h u S) (xb:Nat) (s:List UInt8) (hx:h.get xb=some (.cells [(.string ⟨⟨s⟩⟩, 0)] 0 false)) (hb:xb<c) (hc:c0≤c) (hl:S.length<10000) (r w:List Nat) :
 H6 (go (a3S ti9 u (.slice (some ⟨xb, 0,some 0⟩) 1 1)) ⟨c,h,r,w⟩) fun x s'=>a9k c0 s'.c s'.h x (S ++ [s])∧c≤s'.c∧∀ b,b<c0→s'.h.get b=h.get b:=by
 rcases H with ⟨rfl,rfl⟩ | ⟨ab,g,cs,h0,rfl,h2,h3,h4,h5,h6⟩
 · rw [b1f]
   simp (config:={ maxSteps:=10000000 }) (disch:=first | assumption | omega | (simp only [O1,N8,N7,M9,F8,Nat.reduceMul,Nat.reduceLT,l9,w9,F3,j6,A8,E8,D8,I5,G9,I9,I8,H7,o9,D5,G8,Nat.reduceAdd,D7,E9,Nat.reduceBEq,G5,F9,d9,j5,l6,z8,D9,F7,F5,F4,G6,C8,q9,A9,q8,l8,l7,E5,C9,G7,IntKind.bits,D6,r9,o7] <;> omega) | assumption) only [hx,a0s,J3,l9,w9,j6,H7,K8,M5,H9,K9,M0,O6,J5,J7,G8]
   exact H6.done ⟨Or.inr ⟨c, 0, [(a6s s, 0)],by simp,rfl,hc,Nat.lt_succ_self c,I6 _ _ _,by rfl,rfl⟩,Nat.le_succ c,fun b hb'=>F6 (by omega)⟩
 · have tk:=b5E cs S.length h6
   have hbl:Nat.ble S.length (L9 cs)=true:=by rw [h6]; exact D9 _
   rw [ap9]
   simp (config:={ maxSteps:=10000000 }) (disch:=first | assumption | omega | (simp only [O1,N8,N7,M9,F8,Nat.reduceMul,Nat.reduceLT,l9,w9,F3,j6,A8,E8,D8,I5,G9,I9,I8,H7,o9,D5,G8,Nat.reduceAdd,D7,E9,Nat.reduceBEq,G5,F9,d9,j5,l6,z8,D9,F7,F5,F4,G6,C8,q9,A9,q8,l8,l7,E5,C9,G7,IntKind.bits,D6,r9,o7] <;> omega) | assumption) only [hx,h4,h5,tk,a0s,a0u,o9,D5,H9,J3,O6,J3,l9,w9,j6,H7,K8,M5,H9,K9,M0,O6,J5,J7,G8]
   refine H6.done ⟨Or.inr ⟨ab,g+1,M4 cs [(a6s s,g+1)],by simp, ?_,h2,h3,I6 _ _ _, ?_, ?_⟩,Nat.le_refl c,fun b hb'=>F6 (by omega)⟩
   · rw [List.length_append]; rfl
   · rw [List.length_append,List.map_append]; exact b7b (v:=a6s s) cs S.length _ h6 h5
   · rw [List.length_append,D6,h6]; rfl
noncomputable def ind (op:Int) (d:Nat):Nat×Nat:=bcase (decide (op=.ofNat 2)) (d,d+1) (bcase (decide (op=.ofNat 3)) (d,d+1) (bcase (decide (op=.ofNat 4)) (d,d+1) (bcase (decide (op=.ofNat 5)) (d - 1,d) (bcase (decide (op=.ofNat 11)) (d - 1,d - 1) (d,d)))))
noncomputable def pad (n:Nat) (l:List UInt8):List UInt8:=M4 (a3K [32, 32] n) l
theorem b4T (n:Nat):L9 (a3K [32, 32] n)=2 * n:=by
 induction n with
 | zero=>rfl
 | succ n ih=>
   show L9 (M4 [32, 32] (a3K [32, 32] n))=_
   rw [D6,ih,o9,o9,D5]
   omega
noncomputable def LS (x:IR):List UInt8:=bcase (a1G x.1) (R6 x.1) []
noncomputable def a8B (t:List IR):Bool:=a0o (fun x=>a1G x.1) t
theorem b5q (x:IR) (t:List IR):a8B (x::t)=(a1G x.1 && a8B t):=l9 _ _ _
noncomputable def prT:List IR→Nat→List (List UInt8)
 | [],_=>[]
 | x::t,d=>pad (ind x.1.op d).1 (R6 x.1)::prT t (ind x.1.op d).2
theorem c7W:∀ (t:List IR) (d:Nat),(prT t d).length=t.length:=by
 intro t
 induction t with
 | nil=>intro d; rfl
 | cons x t ih=>intro d; show (_::prT t _).length=_; rw [List.length_cons,List.length_cons,ih]
theorem b8e (op:Int):(decide (op=.ofNat 2)=true∧decide (op=.ofNat 3)=false∧decide (op=.ofNat 4)=false∧decide (op=.ofNat 5)=false∧decide (op=.ofNat 11)=false)∨(decide (op=.ofNat 2)=false∧decide (op=.ofNat 3)=true∧decide (op=.ofNat 4)=false∧decide (op=.ofNat 5)=false∧decide (op=.ofNat 11)=false)∨(decide (op=.ofNat 2)=false∧decide (op=.ofNat 3)=false∧decide (op=.ofNat 4)=true∧decide (op=.ofNat 5)=false∧decide (op=.ofNat 11)=false)∨(decide (op=.ofNat 2)=false∧decide (op=.ofNat 3)=false∧decide (op=.ofNat 4)=false∧decide (op=.ofNat 5)=true∧decide (op=.ofNat 11)=false)∨(decide (op=.ofNat 2)=false∧decide (op=.ofNat 3)=false∧decide (op=.ofNat 4)=false∧decide (op=.ofNat 5)=false∧decide (op=.ofNat 11)=true)∨(decide (op=.ofNat 2)=false∧decide (op=.ofNat 3)=false∧decide (op=.ofNat 4)=false∧decide (op=.ofNat 5)=false∧decide (op=.ofNat 11)=false):=by
 simp only [decide_eq_true_eq,decide_eq_false_iff_not,Int.ofNat_eq_natCast]
 omega
theorem c7O:beqBytes [] []=true:=Eq.trans rfl rfl
def a4m (call:o8) (f c0:Nat) (h0:Trie VObj) (Xs:List IR) (q:IR→Value):Prop:=∀ x∈Xs, ∀ c hh,c0≤c→(∀ b,b<c0→hh.get b=h0.get b)→∃ z:List Nat→List Nat, ∀ r w,go (call f [I7 x.1 x.2.1 x.2.2]) ⟨c,hh,r,w⟩=some (.ret (q x),⟨c,hh,z r,w⟩)
theorem a4m.ends {call:o8} {f c0 c:Nat} {h0 hh:Trie VObj} {Xs:List IR} {q:IR→Value} (H:a4m call f c0 h0 Xs q) {x:IR} (hx:x∈Xs) (hc:c0≤c) (hb:∀ b,b<c0→hh.get b=h0.get b) (r w:List Nat) :
 H6 (go (call f [I7 x.1 x.2.1 x.2.2]) ⟨c,hh,r,w⟩) fun y s=>y=.ret (q x)∧s.c=c∧s.h=hh:=by
 obtain ⟨z,hz⟩:=H x hx c hh hc hb
 exact ⟨_,_,hz r w,rfl,rfl,rfl⟩
noncomputable def LSv (x:IR):Value:=.string ⟨⟨LS x⟩⟩
noncomputable def PLv (x:IR):Value:=.bool (a1G x.1)
theorem c5R (N:Nat) (call:o8) (c0:Nat) (h0:Trie VObj) (v:Value) (Xs:List IR) (H:InsL c0 h0 v Xs) (hl:Xs.length≤60) (h12:a4m call 12 c0 h0 Xs LSv) (h56:∀ n,n<1000→call 56 [.string ⟨⟨[32, 32]⟩⟩,.int .i64 (.ofNat n)]=M.pure (.ret (.string ⟨⟨a3K [32, 32] n⟩⟩))) (hL:∀ x∈Xs,a1G x.1=true→L9 (R6 x.1)≤30000) :
 ∀ (t:List IR) (i k d:Nat) (S:List (List UInt8)) (u:Value) (g0 g1 g2 g3 g4 g5 g6 g7 g8 g10 g11 g12 g13 g14 g15 g16 g17 g18 g19 g20 g21 g22 g23 g24 g25 g26 g27 g28 g29 g30 g32 g33 g34 g35 g36 g37 g38 g40:Value) (c:Nat) (h:Trie VObj) (r w:List Nat),Xs.drop i=t→t.length<k→d≤i→S.length=i→c0≤c→(∀ b,b<c0→h.get b=h0.get b)→a9k c0 c h u S →
 H6 (go (a2S (b4s H8 N call (.int .i64 (.ofNat Xs.length)) v) k [g0,g1,g2,g3,g4,g5,g6,g7,g8,.slice none 0 0,g10,g11,g12,g13,g14,g15,g16,g17,g18,g19,g20,g21,g22,g23,g24,g25,g26,g27,g28,g29,g30,.int .i64 (.ofNat d),g32,g33,g34,g35,g36,g37,g38,u,g40,.int .i64 (.ofNat i)]) ⟨c,h,r,w⟩)
  fun x s=>c0≤s.c∧(∀ b,b<c0→s.h.get b=h0.get b)∧((a8B t=true∧x.1=.exit 0∧a9k c0 s.c s.h (j4 x.2 39) (S ++ prT t d))∨(a8B t=false∧x.1=.ret∧j4 x.2 9=.slice none 0 0)):=by
 intro t
 induction t with
 | nil=>
   intro i k d S u g0 g1 g2 g3 g4 g5 g6 g7 g8 g10 g11 g12 g13 g14 g15 g16 g17 g18 g19 g20 g21 g22 g23 g24 g25 g26 g27 g28 g29 g30 g32 g33 g34 g35 g36 g37 g38 g40 c h r w hd hk hdi hS hc hh HO
   obtain ⟨k,rfl⟩:∃ m,k=m+1:=⟨k - 1,by simp at hk; omega⟩
   have hi:Nat.blt i Xs.length=false:=by
    have:Xs.length≤i:=by simpa [List.drop_eq_nil_iff] using hd
    cases q:Nat.blt i Xs.length with
    | false=>rfl
    | true=>have:i<Xs.length:=by simpa [Nat.blt_eq] using q
            omega
   simp (config:={ maxSteps:=10000000 }) (disch:=first | assumption | omega | (simp only [O1,N8,N7,M9,F8,Nat.reduceMul,Nat.reduceLT,l9,w9,F3,j6,A8,E8,D8,I5,G9,I9,I8,H7,o9,D5,G8,Nat.reduceAdd,D7,E9,Nat.reduceBEq,G5,F9,d9,j5,l6,z8,D9,F7,F5,F4,G6,C8,q9,A9,q8,l8,l7,E5,C9,G7,IntKind.bits,D6,r9,o7] <;> omega) | assumption) only [a1d,c2J,c1f,c1G,c2E,c1X,c2F,c1d,c3g,c1S,c2q,b7T,b8J,b4s,a2t,hi,bn,U0,V5,U6,I4,K3,J2,X4,Y3,M6,a2N,V.e1g,a0t,a0G,a5F]
   exact H6.done ⟨hc,hh,Or.inl ⟨rfl,rfl,by rw [show S ++ prT [] d=S from List.append_nil S]; exact HO⟩⟩
 | cons x t ih=>
   intro i k d S u g0 g1 g2 g3 g4 g5 g6 g7 g8 g10 g11 g12 g13 g14 g15 g16 g17 g18 g19 g20 g21 g22 g23 g24 g25 g26 g27 g28 g29 g30 g32 g33 g34 g35 g36 g37 g38 g40 c h r w hd hk hdi hS hc hh HO
   obtain ⟨k,rfl⟩:∃ m,k=m+1:=⟨k - 1,by simp at hk; omega⟩
   have hil:i<Xs.length:=by
    have:=congrArg List.length hd; simp at this; omega
   have hi:Nat.blt i Xs.length=true:=H9 hil
   have hq:Xs[i]?=some x:=by
    have:=congrArg (fun t=>t[0]?) hd; simpa using this
   have hd':Xs.drop (i+1)=t:=by
    have:=congrArg List.tail hd; simpa using this
   have hm:=List.mem_of_getElem? hq
   have hinc:=a4G i (by omega)
   have hind:=a4G d (by omega)
   obtain ⟨b,p,p0,p7,p8,_,e1,_,_,_,e5,_⟩:=H.read hc hh hq
   obtain ⟨Ht,Hl⟩:=H.each x hm
   have hz:=fun c hh hc hb r w=>a4m.ends h12 hm (c:=c) (hh:=hh) hc hb r w
   have hLx:=hL x hm
   obtain ⟨X,tv,lv⟩:=x
   simp only at Ht Hl
   obtain ⟨ta,te,rfl,_⟩:=id Ht
   obtain ⟨la,le,rfl,_⟩:=id Hl
   simp only [I7,List.length_map] at e5 hz hLx
   simp (config:={ maxSteps:=10000000 }) (disch:=first | assumption | omega | (simp only [O1,N8,N7,M9,F8,Nat.reduceMul,Nat.reduceLT,l9,w9,F3,j6,A8,E8,D8,I5,G9,I9,I8,H7,o9,D5,G8,Nat.reduceAdd,D7,E9,Nat.reduceBEq,G5,F9,d9,j5,l6,z8,D9,F7,F5,F4,G6,C8,q9,A9,q8,l8,l7,E5,C9,G7,IntKind.bits,D6,r9,o7] <;> omega) | assumption) only [a1d,c2J,c1f,c1G,c2E,c1X,c2F,c1d,c3g,c1S,c2q,b7T,b8J,b4s,a2t,hi,e1,e5,hinc,a0d,bn,U0,V5,U6,J6,I4,J3,X4,Y3,M6,V.e1g,a0t,a0G,a5F,Q7,z8,Q8,Y5,a0D,K8,M5,V8,H9,I6,K9,M0,O6,J5,J7,Nat.add_zero,U5,Q0,R3]
   refine H6.bindS (hz (c+1) _ (by omega) (fun b hb=>?_) _ _) fun x s hq=>?_
   · simp (config:={ maxSteps:=10000000 }) (disch:=first | assumption | omega | (simp only [O1,N8,N7,M9,F8,Nat.reduceMul,Nat.reduceLT,l9,w9,F3,j6,A8,E8,D8,I5,G9,I9,I8,H7,o9,D5,G8,Nat.reduceAdd,D7,E9,Nat.reduceBEq,G5,F9,d9,j5,l6,z8,D9,F7,F5,F4,G6,C8,q9,A9,q8,l8,l7,E5,C9,G7,IntKind.bits,D6,r9,o7] <;> omega) | assumption) only [F6,hh]
   obtain ⟨c',h',r',w'⟩:=s
   simp only at hq
   obtain ⟨rfl,rfl,rfl⟩:=hq
   have hpr:a8B ((X,.slice ta (P6 X.types).length te,.slice la (P6 X.labels).length le)::t)=(a1G X && a8B t):=b5q _ t
   have eL:LSv (X,.slice ta (P6 X.types).length te,.slice la (P6 X.labels).length le)=.string ⟨⟨bcase (a1G X) (R6 X) []⟩⟩:=rfl
   simp only [List.length_map] at eL
   cases hp:a1G X with
   | false=>
     rw [hp] at eL hpr
     simp (config:={ maxSteps:=10000000 }) (disch:=first | assumption | omega | (simp only [O1,N8,N7,M9,F8,Nat.reduceMul,Nat.reduceLT,l9,w9,F3,j6,A8,E8,D8,I5,G9,I9,I8,H7,o9,D5,G8,Nat.reduceAdd,D7,E9,Nat.reduceBEq,G5,F9,d9,j5,l6,z8,D9,F7,F5,F4,G6,C8,q9,A9,q8,l8,l7,E5,C9,G7,IntKind.bits,D6,r9,o7] <;> omega) | assumption) only [eL,b2i,c7O,K3,J4,J3,M6,a5Y,V.e1g,a5S]
     refine H6.done ⟨by show c0≤c+1; omega,fun b hb=>?_,Or.inr ⟨hpr,rfl,rfl⟩⟩
     simp (config:={ maxSteps:=10000000 }) (disch:=first | assumption | omega | (simp only [O1,N8,N7,M9,F8,Nat.reduceMul,Nat.reduceLT,l9,w9,F3,j6,A8,E8,D8,I5,G9,I9,I8,H7,o9,D5,G8,Nat.reduceAdd,D7,E9,Nat.reduceBEq,G5,F9,d9,j5,l6,z8,D9,F7,F5,F4,G6,C8,q9,A9,q8,l8,l7,E5,C9,G7,IntKind.bits,D6,r9,o7] <;> omega) | assumption) only [F6,hh]
   | true=>
     rw [hp] at eL hpr
     have hne:=c7V hp
     have hlen:=hLx hp
     have rl:=b4T d
     have rl':=b4T (d - 1)
     have q1:=h56 d (by omega)
     have q2:=h56 (d - 1) (by omega)
     have d1:=fun ts=>d3r ts d (by omega)
     rw [a9X] at eL
     simp only [I8] at hpr
     rcases b8e X.op with ⟨o2,o3,o4,o5,o11⟩ | ⟨o2,o3,o4,o5,o11⟩ | ⟨o2,o3,o4,o5,o11⟩ | ⟨o2,o3,o4,o5,o11⟩ | ⟨o2,o3,o4,o5,o11⟩ | ⟨o2,o3,o4,o5,o11⟩
     · have o:ind X.op d=(d,d+1):=by unfold ind; rw [o2,o3,o4,o5,o11]; rfl
       have eT:S ++ prT ((X,.slice ta (P6 X.types).length te,.slice la (P6 X.labels).length le)::t) d=(S ++ [pad (d) (R6 X)]) ++ prT t (d+1):=by
        show S ++ (pad (ind X.op d).1 (R6 X)::prT t (ind X.op d).2)=_
        rw [o]; simp
       rw [hpr,eT]
       simp (config:={ maxSteps:=10000000 }) (disch:=first | assumption | omega | (simp only [O1,N8,N7,M9,F8,Nat.reduceMul,Nat.reduceLT,l9,w9,F3,j6,A8,E8,D8,I5,G9,I9,I8,H7,o9,D5,G8,Nat.reduceAdd,D7,E9,Nat.reduceBEq,G5,F9,d9,j5,l6,z8,D9,F7,F5,F4,G6,C8,q9,A9,q8,l8,l7,E5,C9,G7,IntKind.bits,D6,r9,o7] <;> omega) | assumption) only [eL,hne,o2,o3,o4,o5,o11,q1,d1,hind,mx,a0d,J6,I4,K3,J4,J3,J2,X4,Y3,M6,K6,V.e1g,P8,a5S,X7,d9,T9,R9,U9,P5,O5,l9,w9,j6,H7,M8,R8,K8,M5,H9,I6,K9,M0,O6,J5,J7]
       refine H6.bindS (a5v (S:=S) (HO.mono (by omega) (fun b hb=>?_)) (c+1) (M4 (a3K [32, 32] (d)) (R6 X)) ?_ (by omega) (by omega) (by omega) _ _) fun x s hq=>?_
       · simp (config:={ maxSteps:=10000000 }) (disch:=first | assumption | omega | (simp only [O1,N8,N7,M9,F8,Nat.reduceMul,Nat.reduceLT,l9,w9,F3,j6,A8,E8,D8,I5,G9,I9,I8,H7,o9,D5,G8,Nat.reduceAdd,D7,E9,Nat.reduceBEq,G5,F9,d9,j5,l6,z8,D9,F7,F5,F4,G6,C8,q9,A9,q8,l8,l7,E5,C9,G7,IntKind.bits,D6,r9,o7] <;> omega) | assumption) only [F6]
       · simp (config:={ maxSteps:=10000000 }) (disch:=first | assumption | omega | (simp only [O1,N8,N7,M9,F8,Nat.reduceMul,Nat.reduceLT,l9,w9,F3,j6,A8,E8,D8,I5,G9,I9,I8,H7,o9,D5,G8,Nat.reduceAdd,D7,E9,Nat.reduceBEq,G5,F9,d9,j5,l6,z8,D9,F7,F5,F4,G6,C8,q9,A9,q8,l8,l7,E5,C9,G7,IntKind.bits,D6,r9,o7] <;> omega) | assumption) only [I6]
       · obtain ⟨hO2,hc2,hf2⟩:=hq
         obtain ⟨c2,h2,r2,w2⟩:=s
         simp only at hO2 hc2 hf2
         refine ih (i+1) k (d+1) (S ++ [pad (d) (R6 X)]) x _ _ _ _ _ _ _ _ _ _ _ _ _ _ _ _ _ _ _ _ _ _ _ _ _ _ _ _ _ _ _ _ _ _ _ _ _ _ c2 h2 _ _ hd' (by simp at hk; omega) (by omega) (by rw [List.length_append,hS]; rfl) (by omega) (fun b hb=>?_) hO2
         rw [hf2 b hb]
         simp (config:={ maxSteps:=10000000 }) (disch:=first | assumption | omega | (simp only [O1,N8,N7,M9,F8,Nat.reduceMul,Nat.reduceLT,l9,w9,F3,j6,A8,E8,D8,I5,G9,I9,I8,H7,o9,D5,G8,Nat.reduceAdd,D7,E9,Nat.reduceBEq,G5,F9,d9,j5,l6,z8,D9,F7,F5,F4,G6,C8,q9,A9,q8,l8,l7,E5,C9,G7,IntKind.bits,D6,r9,o7] <;> omega) | assumption) only [F6,hh]
     · have o:ind X.op d=(d,d+1):=by unfold ind; rw [o2,o3,o4,o5,o11]; rfl
       have eT:S ++ prT ((X,.slice ta (P6 X.types).length te,.slice la (P6 X.labels).length le)::t) d=(S ++ [pad (d) (R6 X)]) ++ prT t (d+1):=by
        show S ++ (pad (ind X.op d).1 (R6 X)::prT t (ind X.op d).2)=_
        rw [o]; simp
       rw [hpr,eT]
       simp (config:={ maxSteps:=10000000 }) (disch:=first | assumption | omega | (simp only [O1,N8,N7,M9,F8,Nat.reduceMul,Nat.reduceLT,l9,w9,F3,j6,A8,E8,D8,I5,G9,I9,I8,H7,o9,D5,G8,Nat.reduceAdd,D7,E9,Nat.reduceBEq,G5,F9,d9,j5,l6,z8,D9,F7,F5,F4,G6,C8,q9,A9,q8,l8,l7,E5,C9,G7,IntKind.bits,D6,r9,o7] <;> omega) | assumption) only [eL,hne,o2,o3,o4,o5,o11,q1,d1,hind,mx,a0d,J6,I4,K3,J4,J3,J2,X4,Y3,M6,K6,V.e1g,P8,a5S,X7,d9,T9,R9,U9,P5,O5,l9,w9,j6,H7,M8,R8,K8,M5,H9,I6,K9,M0,O6,J5,J7]
       refine H6.bindS (a5v (S:=S) (HO.mono (by omega) (fun b hb=>?_)) (c+1) (M4 (a3K [32, 32] (d)) (R6 X)) ?_ (by omega) (by omega) (by omega) _ _) fun x s hq=>?_
       · simp (config:={ maxSteps:=10000000 }) (disch:=first | assumption | omega | (simp only [O1,N8,N7,M9,F8,Nat.reduceMul,Nat.reduceLT,l9,w9,F3,j6,A8,E8,D8,I5,G9,I9,I8,H7,o9,D5,G8,Nat.reduceAdd,D7,E9,Nat.reduceBEq,G5,F9,d9,j5,l6,z8,D9,F7,F5,F4,G6,C8,q9,A9,q8,l8,l7,E5,C9,G7,IntKind.bits,D6,r9,o7] <;> omega) | assumption) only [F6]
       · simp (config:={ maxSteps:=10000000 }) (disch:=first | assumption | omega | (simp only [O1,N8,N7,M9,F8,Nat.reduceMul,Nat.reduceLT,l9,w9,F3,j6,A8,E8,D8,I5,G9,I9,I8,H7,o9,D5,G8,Nat.reduceAdd,D7,E9,Nat.reduceBEq,G5,F9,d9,j5,l6,z8,D9,F7,F5,F4,G6,C8,q9,A9,q8,l8,l7,E5,C9,G7,IntKind.bits,D6,r9,o7] <;> omega) | assumption) only [I6]
       · obtain ⟨hO2,hc2,hf2⟩:=hq
         obtain ⟨c2,h2,r2,w2⟩:=s
         simp only at hO2 hc2 hf2
         refine ih (i+1) k (d+1) (S ++ [pad (d) (R6 X)]) x _ _ _ _ _ _ _ _ _ _ _ _ _ _ _ _ _ _ _ _ _ _ _ _ _ _ _ _ _ _ _ _ _ _ _ _ _ _ c2 h2 _ _ hd' (by simp at hk; omega) (by omega) (by rw [List.length_append,hS]; rfl) (by omega) (fun b hb=>?_) hO2
         rw [hf2 b hb]
         simp (config:={ maxSteps:=10000000 }) (disch:=first | assumption | omega | (simp only [O1,N8,N7,M9,F8,Nat.reduceMul,Nat.reduceLT,l9,w9,F3,j6,A8,E8,D8,I5,G9,I9,I8,H7,o9,D5,G8,Nat.reduceAdd,D7,E9,Nat.reduceBEq,G5,F9,d9,j5,l6,z8,D9,F7,F5,F4,G6,C8,q9,A9,q8,l8,l7,E5,C9,G7,IntKind.bits,D6,r9,o7] <;> omega) | assumption) only [F6,hh]
     · have o:ind X.op d=(d,d+1):=by unfold ind; rw [o2,o3,o4,o5,o11]; rfl
       have eT:S ++ prT ((X,.slice ta (P6 X.types).length te,.slice la (P6 X.labels).length le)::t) d=(S ++ [pad (d) (R6 X)]) ++ prT t (d+1):=by
        show S ++ (pad (ind X.op d).1 (R6 X)::prT t (ind X.op d).2)=_
        rw [o]; simp
       rw [hpr,eT]
       simp (config:={ maxSteps:=10000000 }) (disch:=first | assumption | omega | (simp only [O1,N8,N7,M9,F8,Nat.reduceMul,Nat.reduceLT,l9,w9,F3,j6,A8,E8,D8,I5,G9,I9,I8,H7,o9,D5,G8,Nat.reduceAdd,D7,E9,Nat.reduceBEq,G5,F9,d9,j5,l6,z8,D9,F7,F5,F4,G6,C8,q9,A9,q8,l8,l7,E5,C9,G7,IntKind.bits,D6,r9,o7] <;> omega) | assumption) only [eL,hne,o2,o3,o4,o5,o11,q1,d1,hind,mx,a0d,J6,I4,K3,J4,J3,J2,X4,Y3,M6,K6,V.e1g,P8,a5S,X7,d9,T9,R9,U9,P5,O5,l9,w9,j6,H7,M8,R8,K8,M5,H9,I6,K9,M0,O6,J5,J7]
       refine H6.bindS (a5v (S:=S) (HO.mono (by omega) (fun b hb=>?_)) (c+1) (M4 (a3K [32, 32] (d)) (R6 X)) ?_ (by omega) (by omega) (by omega) _ _) fun x s hq=>?_
       · simp (config:={ maxSteps:=10000000 }) (disch:=first | assumption | omega | (simp only [O1,N8,N7,M9,F8,Nat.reduceMul,Nat.reduceLT,l9,w9,F3,j6,A8,E8,D8,I5,G9,I9,I8,H7,o9,D5,G8,Nat.reduceAdd,D7,E9,Nat.reduceBEq,G5,F9,d9,j5,l6,z8,D9,F7,F5,F4,G6,C8,q9,A9,q8,l8,l7,E5,C9,G7,IntKind.bits,D6,r9,o7] <;> omega) | assumption) only [F6]
       · simp (config:={ maxSteps:=10000000 }) (disch:=first | assumption | omega | (simp only [O1,N8,N7,M9,F8,Nat.reduceMul,Nat.reduceLT,l9,w9,F3,j6,A8,E8,D8,I5,G9,I9,I8,H7,o9,D5,G8,Nat.reduceAdd,D7,E9,Nat.reduceBEq,G5,F9,d9,j5,l6,z8,D9,F7,F5,F4,G6,C8,q9,A9,q8,l8,l7,E5,C9,G7,IntKind.bits,D6,r9,o7] <;> omega) | assumption) only [I6]
       · obtain ⟨hO2,hc2,hf2⟩:=hq
         obtain ⟨c2,h2,r2,w2⟩:=s
         simp only at hO2 hc2 hf2
         refine ih (i+1) k (d+1) (S ++ [pad (d) (R6 X)]) x _ _ _ _ _ _ _ _ _ _ _ _ _ _ _ _ _ _ _ _ _ _ _ _ _ _ _ _ _ _ _ _ _ _ _ _ _ _ c2 h2 _ _ hd' (by simp at hk; omega) (by omega) (by rw [List.length_append,hS]; rfl) (by omega) (fun b hb=>?_) hO2
         rw [hf2 b hb]
         simp (config:={ maxSteps:=10000000 }) (disch:=first | assumption | omega | (simp only [O1,N8,N7,M9,F8,Nat.reduceMul,Nat.reduceLT,l9,w9,F3,j6,A8,E8,D8,I5,G9,I9,I8,H7,o9,D5,G8,Nat.reduceAdd,D7,E9,Nat.reduceBEq,G5,F9,d9,j5,l6,z8,D9,F7,F5,F4,G6,C8,q9,A9,q8,l8,l7,E5,C9,G7,IntKind.bits,D6,r9,o7] <;> omega) | assumption) only [F6,hh]
     · have o:ind X.op d=(d - 1,d):=by unfold ind; rw [o2,o3,o4,o5,o11]; rfl
       have eT:S ++ prT ((X,.slice ta (P6 X.types).length te,.slice la (P6 X.labels).length le)::t) d=(S ++ [pad (d - 1) (R6 X)]) ++ prT t (d):=by
        show S ++ (pad (ind X.op d).1 (R6 X)::prT t (ind X.op d).2)=_
        rw [o]; simp
       rw [hpr,eT]
       simp (config:={ maxSteps:=10000000 }) (disch:=first | assumption | omega | (simp only [O1,N8,N7,M9,F8,Nat.reduceMul,Nat.reduceLT,l9,w9,F3,j6,A8,E8,D8,I5,G9,I9,I8,H7,o9,D5,G8,Nat.reduceAdd,D7,E9,Nat.reduceBEq,G5,F9,d9,j5,l6,z8,D9,F7,F5,F4,G6,C8,q9,A9,q8,l8,l7,E5,C9,G7,IntKind.bits,D6,r9,o7] <;> omega) | assumption) only [eL,hne,o2,o3,o4,o5,o11,q2,d1,hind,mx,a0d,J6,I4,K3,J4,J3,J2,X4,Y3,M6,K6,V.e1g,P8,a5S,X7,d9,T9,R9,U9,P5,O5,l9,w9,j6,H7,M8,R8,K8,M5,H9,I6,K9,M0,O6,J5,J7]
       refine H6.bindS (a5v (S:=S) (HO.mono (by omega) (fun b hb=>?_)) (c+1) (M4 (a3K [32, 32] (d - 1)) (R6 X)) ?_ (by omega) (by omega) (by omega) _ _) fun x s hq=>?_
       · simp (config:={ maxSteps:=10000000 }) (disch:=first | assumption | omega | (simp only [O1,N8,N7,M9,F8,Nat.reduceMul,Nat.reduceLT,l9,w9,F3,j6,A8,E8,D8,I5,G9,I9,I8,H7,o9,D5,G8,Nat.reduceAdd,D7,E9,Nat.reduceBEq,G5,F9,d9,j5,l6,z8,D9,F7,F5,F4,G6,C8,q9,A9,q8,l8,l7,E5,C9,G7,IntKind.bits,D6,r9,o7] <;> omega) | assumption) only [F6]
       · simp (config:={ maxSteps:=10000000 }) (disch:=first | assumption | omega | (simp only [O1,N8,N7,M9,F8,Nat.reduceMul,Nat.reduceLT,l9,w9,F3,j6,A8,E8,D8,I5,G9,I9,I8,H7,o9,D5,G8,Nat.reduceAdd,D7,E9,Nat.reduceBEq,G5,F9,d9,j5,l6,z8,D9,F7,F5,F4,G6,C8,q9,A9,q8,l8,l7,E5,C9,G7,IntKind.bits,D6,r9,o7] <;> omega) | assumption) only [I6]
       · obtain ⟨hO2,hc2,hf2⟩:=hq
         obtain ⟨c2,h2,r2,w2⟩:=s
         simp only at hO2 hc2 hf2
         refine ih (i+1) k (d) (S ++ [pad (d - 1) (R6 X)]) x _ _ _ _ _ _ _ _ _ _ _ _ _ _ _ _ _ _ _ _ _ _ _ _ _ _ _ _ _ _ _ _ _ _ _ _ _ _ c2 h2 _ _ hd' (by simp at hk; omega) (by omega) (by rw [List.length_append,hS]; rfl) (by omega) (fun b hb=>?_) hO2
         rw [hf2 b hb]
         simp (config:={ maxSteps:=10000000 }) (disch:=first | assumption | omega | (simp only [O1,N8,N7,M9,F8,Nat.reduceMul,Nat.reduceLT,l9,w9,F3,j6,A8,E8,D8,I5,G9,I9,I8,H7,o9,D5,G8,Nat.reduceAdd,D7,E9,Nat.reduceBEq,G5,F9,d9,j5,l6,z8,D9,F7,F5,F4,G6,C8,q9,A9,q8,l8,l7,E5,C9,G7,IntKind.bits,D6,r9,o7] <;> omega) | assumption) only [F6,hh]
     · have o:ind X.op d=(d - 1,d - 1):=by unfold ind; rw [o2,o3,o4,o5,o11]; rfl
       have eT:S ++ prT ((X,.slice ta (P6 X.types).length te,.slice la (P6 X.labels).length le)::t) d=(S ++ [pad (d - 1) (R6 X)]) ++ prT t (d - 1):=by
        show S ++ (pad (ind X.op d).1 (R6 X)::prT t (ind X.op d).2)=_
        rw [o]; simp
       rw [hpr,eT]
       simp (config:={ maxSteps:=10000000 }) (disch:=first | assumption | omega | (simp only [O1,N8,N7,M9,F8,Nat.reduceMul,Nat.reduceLT,l9,w9,F3,j6,A8,E8,D8,I5,G9,I9,I8,H7,o9,D5,G8,Nat.reduceAdd,D7,E9,Nat.reduceBEq,G5,F9,d9,j5,l6,z8,D9,F7,F5,F4,G6,C8,q9,A9,q8,l8,l7,E5,C9,G7,IntKind.bits,D6,r9,o7] <;> omega) | assumption) only [eL,hne,o2,o3,o4,o5,o11,q2,d1,hind,mx,a0d,J6,I4,K3,J4,J3,J2,X4,Y3,M6,K6,V.e1g,P8,a5S,X7,d9,T9,R9,U9,P5,O5,l9,w9,j6,H7,M8,R8,K8,M5,H9,I6,K9,M0,O6,J5,J7]
       refine H6.bindS (a5v (S:=S) (HO.mono (by omega) (fun b hb=>?_)) (c+1) (M4 (a3K [32, 32] (d - 1)) (R6 X)) ?_ (by omega) (by omega) (by omega) _ _) fun x s hq=>?_
       · simp (config:={ maxSteps:=10000000 }) (disch:=first | assumption | omega | (simp only [O1,N8,N7,M9,F8,Nat.reduceMul,Nat.reduceLT,l9,w9,F3,j6,A8,E8,D8,I5,G9,I9,I8,H7,o9,D5,G8,Nat.reduceAdd,D7,E9,Nat.reduceBEq,G5,F9,d9,j5,l6,z8,D9,F7,F5,F4,G6,C8,q9,A9,q8,l8,l7,E5,C9,G7,IntKind.bits,D6,r9,o7] <;> omega) | assumption) only [F6]
       · simp (config:={ maxSteps:=10000000 }) (disch:=first | assumption | omega | (simp only [O1,N8,N7,M9,F8,Nat.reduceMul,Nat.reduceLT,l9,w9,F3,j6,A8,E8,D8,I5,G9,I9,I8,H7,o9,D5,G8,Nat.reduceAdd,D7,E9,Nat.reduceBEq,G5,F9,d9,j5,l6,z8,D9,F7,F5,F4,G6,C8,q9,A9,q8,l8,l7,E5,C9,G7,IntKind.bits,D6,r9,o7] <;> omega) | assumption) only [I6]
       · obtain ⟨hO2,hc2,hf2⟩:=hq
         obtain ⟨c2,h2,r2,w2⟩:=s
         simp only at hO2 hc2 hf2
         refine ih (i+1) k (d - 1) (S ++ [pad (d - 1) (R6 X)]) x _ _ _ _ _ _ _ _ _ _ _ _ _ _ _ _ _ _ _ _ _ _ _ _ _ _ _ _ _ _ _ _ _ _ _ _ _ _ c2 h2 _ _ hd' (by simp at hk; omega) (by omega) (by rw [List.length_append,hS]; rfl) (by omega) (fun b hb=>?_) hO2
         rw [hf2 b hb]
         simp (config:={ maxSteps:=10000000 }) (disch:=first | assumption | omega | (simp only [O1,N8,N7,M9,F8,Nat.reduceMul,Nat.reduceLT,l9,w9,F3,j6,A8,E8,D8,I5,G9,I9,I8,H7,o9,D5,G8,Nat.reduceAdd,D7,E9,Nat.reduceBEq,G5,F9,d9,j5,l6,z8,D9,F7,F5,F4,G6,C8,q9,A9,q8,l8,l7,E5,C9,G7,IntKind.bits,D6,r9,o7] <;> omega) | assumption) only [F6,hh]
     · have o:ind X.op d=(d,d):=by unfold ind; rw [o2,o3,o4,o5,o11]; rfl
       have eT:S ++ prT ((X,.slice ta (P6 X.types).length te,.slice la (P6 X.labels).length le)::t) d=(S ++ [pad (d) (R6 X)]) ++ prT t (d):=by
        show S ++ (pad (ind X.op d).1 (R6 X)::prT t (ind X.op d).2)=_
        rw [o]; simp
       rw [hpr,eT]
       simp (config:={ maxSteps:=10000000 }) (disch:=first | assumption | omega | (simp only [O1,N8,N7,M9,F8,Nat.reduceMul,Nat.reduceLT,l9,w9,F3,j6,A8,E8,D8,I5,G9,I9,I8,H7,o9,D5,G8,Nat.reduceAdd,D7,E9,Nat.reduceBEq,G5,F9,d9,j5,l6,z8,D9,F7,F5,F4,G6,C8,q9,A9,q8,l8,l7,E5,C9,G7,IntKind.bits,D6,r9,o7] <;> omega) | assumption) only [eL,hne,o2,o3,o4,o5,o11,q1,d1,hind,mx,a0d,J6,I4,K3,J4,J3,J2,X4,Y3,M6,K6,V.e1g,P8,a5S,X7,d9,T9,R9,U9,P5,O5,l9,w9,j6,H7,M8,R8,K8,M5,H9,I6,K9,M0,O6,J5,J7]
       refine H6.bindS (a5v (S:=S) (HO.mono (by omega) (fun b hb=>?_)) (c+1) (M4 (a3K [32, 32] (d)) (R6 X)) ?_ (by omega) (by omega) (by omega) _ _) fun x s hq=>?_
       · simp (config:={ maxSteps:=10000000 }) (disch:=first | assumption | omega | (simp only [O1,N8,N7,M9,F8,Nat.reduceMul,Nat.reduceLT,l9,w9,F3,j6,A8,E8,D8,I5,G9,I9,I8,H7,o9,D5,G8,Nat.reduceAdd,D7,E9,Nat.reduceBEq,G5,F9,d9,j5,l6,z8,D9,F7,F5,F4,G6,C8,q9,A9,q8,l8,l7,E5,C9,G7,IntKind.bits,D6,r9,o7] <;> omega) | assumption) only [F6]
       · simp (config:={ maxSteps:=10000000 }) (disch:=first | assumption | omega | (simp only [O1,N8,N7,M9,F8,Nat.reduceMul,Nat.reduceLT,l9,w9,F3,j6,A8,E8,D8,I5,G9,I9,I8,H7,o9,D5,G8,Nat.reduceAdd,D7,E9,Nat.reduceBEq,G5,F9,d9,j5,l6,z8,D9,F7,F5,F4,G6,C8,q9,A9,q8,l8,l7,E5,C9,G7,IntKind.bits,D6,r9,o7] <;> omega) | assumption) only [I6]
       · obtain ⟨hO2,hc2,hf2⟩:=hq
         obtain ⟨c2,h2,r2,w2⟩:=s
         simp only at hO2 hc2 hf2
         refine ih (i+1) k (d) (S ++ [pad (d) (R6 X)]) x _ _ _ _ _ _ _ _ _ _ _ _ _ _ _ _ _ _ _ _ _ _ _ _ _ _ _ _ _ _ _ _ _ _ _ _ _ _ c2 h2 _ _ hd' (by simp at hk; omega) (by omega) (by rw [List.length_append,hS]; rfl) (by omega) (fun b hb=>?_) hO2
         rw [hf2 b hb]
         simp (config:={ maxSteps:=10000000 }) (disch:=first | assumption | omega | (simp only [O1,N8,N7,M9,F8,Nat.reduceMul,Nat.reduceLT,l9,w9,F3,j6,A8,E8,D8,I5,G9,I9,I8,H7,o9,D5,G8,Nat.reduceAdd,D7,E9,Nat.reduceBEq,G5,F9,d9,j5,l6,z8,D9,F7,F5,F4,G6,C8,q9,A9,q8,l8,l7,E5,C9,G7,IntKind.bits,D6,r9,o7] <;> omega) | assumption) only [F6,hh]
end Go.Proofs.YtmomonnlmbljoaaGreatDoor
end
