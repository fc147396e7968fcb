import Derived.Test.YtmomonnlmbljoaaGreatDoorPbh
import Derived.Test.YtmomonnlmbljoaaGreatDoorPbj
section
namespace Go.Proofs.YtmomonnlmbljoaaGreatDoor
open Go.V Go.RowKit Go.Shelf Go.Proofs
set_option maxRecDepth 1000000
set_option maxHeartbeats 4000000
set_option linter.unusedVariables false
attribute [local congr] U8 U7 Y8 Z0 a0i a0h a1V
variable {mL:Int}
theorem c8q (N:Nat) (call Y2 call3:o8) (X:Ins) (tv lv:Value) (a b:Nat) (hA:X.A=.ofNat a) (hB:X.B=.ofNat b) (ha:a<4294967296) (hb:b<4294967296) (s1 s2:List UInt8) (k1:L9 s1≤60) (k2:L9 s2≤60) (h41:∀ a,call 41 [a]=M.bind (a6X q41 [a]) fun v=>M.pure (.ret v)) (hq:q41 [I7 X tv lv]=some [])
 (c:Nat) (h:Trie VObj) (h34:∀ hh,(∀ b,b<c→hh.get b=h.get b)→∃ z:List Nat→List Nat, ∀ r w,go (call 34 [I7 X tv lv]) ⟨c+1,hh,r,w⟩=some (.ret (.bool true),⟨c+1,hh,z r,w⟩))
 (C:Calls12 N call Y2 call3 X 17)
 (Ht:Q6 c h tv (P6 X.types)) (Hl:Q6 c h lv (P6 X.labels)) (r w:List Nat) :
 H6 (go (a0c H8 N call (I7 X tv lv)) ⟨c,h,r,w⟩) fun x s=>x=.ret (.string ⟨⟨M4 (V4 X.op) (a0C b)⟩⟩)∧∀ i,i<c→s.h.get i=h.get i:=by
 obtain ⟨z,h34'⟩:=h34 (upd h c (.cells [(.int .i64 X.op, 0),(.int .i64 X.A, 0),(.int .i64 X.B, 0),(.int .u64 (Int.ofNat X.N), 0),(.int .i64 X.k, 0),(.int .i64 X.v, 0),(.int .i64 X.i, 0),(tv, 0),(lv, 0)] 0 false)) (fun b hb=>F6 (by omega))
 obtain ⟨h35,h39,h36,h36',h37c,h37,h37',h38,h44,h96⟩:=C
 obtain ⟨ta,te,rfl,_⟩:=id Ht
 obtain ⟨la,le,rfl,_⟩:=id Hl
 simp only [I7,hA,hB,List.length_map] at hq
 have nx:=fun (c:Nat) (h:Trie VObj) (r w:List Nat)=>b9z (c:=c) (h:=h) (r:=r) (w:=w) hq
 simp only [I7,hA,hB,  List.length_map] at h34'
 have nl:=X9 X.op
 have l1:=Y6 a (by omega)
 have l2:=Y6 b (by omega)
 have q1:=h37 a (by omega)
 have q2:=h37' b (by omega)
 have q3:=h37' a (by omega)
 have q4:=h37c a (by omega)
 cases hz:b.beq 0 with
 | true=>
   simp (config:={ maxSteps:=10000000 }) (disch:=first | assumption | omega | (simp only [O1,N8,N7,M9,F8,Nat.reduceMul,Nat.reduceLT,l9,w9,F3,j6,A8,E8,D8,I5,G9,I9,I8,H7,o9,D5,G8,Nat.reduceAdd,D7,E9,Nat.reduceBEq,G5,F9,d9,j5,l6,z8,D9,F7,F5,F4,G6,C8,q9,A9,q8,l8,l7,E5,C9,G7,IntKind.bits,D6,r9,o7] <;> omega) | assumption) only [a0c,a2j,a2g,a1Z,a2e,a2i,a2a,a2d,a2c,a2b,a2h,a0O,a0X,a1t,a0N,a0Y,a1m,a1b,a0V,a1C,a1l,a1s,a1g,a1A,a1i,a1q,a1h,a1j,a0U,a1z,a1F,a0K,a1w,a1p,a1D,a0J,a1c,a1k,a1y,a1f,a0L,a0S,a0M,a0T,a1x,a0Z,a1B,a0W,a1o,a1e,a1n,a1v,Z9,a0R,a0a,a1u,Z8,a0Q,a7x,Z7,a0P,Z6,a1E,a0b,a1r,a2J,a2F,I7,hA,hB,List.length_map,h34',h35,h39,h38,h44,h96,h41,nx,hz,decide_true,J3,J2,V9,F7,F5,F4,G9,U4,H9,b3T,Z4,X5,Y7,V3,a0r,bn,un,U0,V5,U6,a1P,J6,I4,K3,J4,U3,P7,P9,r9,o7,J3,J2,X4,Y3,M6,K6,V.e1g,Q9,R5,P8,a0v,R7,Q7,a0l,d9,j5,l6,T9,R9,U9,P5,O5,l9,w9,j6,H7,M7,M8,Q8,Y5,a0D,R8,K8,M5,V8,H9,I6,F6,K9,M0,O6,S9,J5,J7,G8,Nat.add_zero,U5,Q0,R3,a0q,V7]
   exact H6.done ⟨by simp only [a0C,J3,hz,  N9,List.append_nil],fun i hi=>by simp (config:={ maxSteps:=10000000 }) (disch:=first | assumption | omega | (simp only [O1,N8,N7,M9,F8,Nat.reduceMul,Nat.reduceLT,l9,w9,F3,j6,A8,E8,D8,I5,G9,I9,I8,H7,o9,D5,G8,Nat.reduceAdd,D7,E9,Nat.reduceBEq,G5,F9,d9,j5,l6,z8,D9,F7,F5,F4,G6,C8,q9,A9,q8,l8,l7,E5,C9,G7,IntKind.bits,D6,r9,o7] <;> omega) | assumption) only [F6]⟩
 | false=>
   simp (config:={ maxSteps:=10000000 }) (disch:=first | assumption | omega | (simp only [O1,N8,N7,M9,F8,Nat.reduceMul,Nat.reduceLT,l9,w9,F3,j6,A8,E8,D8,I5,G9,I9,I8,H7,o9,D5,G8,Nat.reduceAdd,D7,E9,Nat.reduceBEq,G5,F9,d9,j5,l6,z8,D9,F7,F5,F4,G6,C8,q9,A9,q8,l8,l7,E5,C9,G7,IntKind.bits,D6,r9,o7] <;> omega) | assumption) only [a0c,a2j,a2g,a1Z,a2e,a2i,a2a,a2d,a2c,a2b,a2h,a0O,a0X,a1t,a0N,a0Y,a1m,a1b,a0V,a1C,a1l,a1s,a1g,a1A,a1i,a1q,a1h,a1j,a0U,a1z,a1F,a0K,a1w,a1p,a1D,a0J,a1c,a1k,a1y,a1f,a0L,a0S,a0M,a0T,a1x,a0Z,a1B,a0W,a1o,a1e,a1n,a1v,Z9,a0R,a0a,a1u,Z8,a0Q,a7x,Z7,a0P,Z6,a1E,a0b,a1r,a3V,a2u,a4b,a2v,a2J,a2F,I7,hA,hB,List.length_map,h34',h35,h39,h36',h38,h44,h96,q2,h41,nx,hz,decide_true,J3,J2,V9,F7,F5,F4,G9,I5,U4,o9,D5,H9,Nat.reduceMul,ap9,b3T,a0u,a0s,a1L,a1K,Z4,X5,Y7,V3,X3,a0r,bn,un,U0,V5,U6,a1P,J6,I4,K3,J4,U3,P7,P9,r9,o7,J3,J2,X4,Y3,M6,K6,V.e1g,Q9,R5,P8,a0v,R7,Q7,a0l,d9,j5,l6,T9,R9,U9,P5,O5,l9,w9,j6,H7,M7,M8,Q8,Y5,a0D,R8,K8,M5,V8,H9,I6,F6,K9,M0,O6,S9,J5,J7,G8,Nat.add_zero,Nat.reduceAdd,U5,Q0,R3,a0q,V7]
   exact H6.done ⟨by simp only [a0C,X8,J2,hz,  N9,List.append_nil],fun i hi=>by simp (config:={ maxSteps:=10000000 }) (disch:=first | assumption | omega | (simp only [O1,N8,N7,M9,F8,Nat.reduceMul,Nat.reduceLT,l9,w9,F3,j6,A8,E8,D8,I5,G9,I9,I8,H7,o9,D5,G8,Nat.reduceAdd,D7,E9,Nat.reduceBEq,G5,F9,d9,j5,l6,z8,D9,F7,F5,F4,G6,C8,q9,A9,q8,l8,l7,E5,C9,G7,IntKind.bits,D6,r9,o7] <;> omega) | assumption) only [F6]⟩
def a6s (l:List UInt8):Value:=.string ⟨⟨l⟩⟩
structure Lst (h:Trie VObj) (lb ab g:Nat) (cs:List (Value×Nat)) (ws:List (List UInt8)):Prop where
 cell:h.get lb=some (.cells [(.slice (some ⟨ab, 0,some g⟩) ws.length 1, 0)] 0 false)
 obj:h.get ab=some (.cells cs g false)
 take:Y0 g cs ws.length=some (ws.map a6s)
 len:L9 cs=ws.length
theorem b5E {α:Type}:∀ (l:List α) (n:Nat),L9 l=n→a5W l n=l:=by
 intro l
 induction l with
 | nil=>intro n h; cases h; exact a1L _
 | cons x l ih=>
   intro n h
   cases n with
   | zero=>cases h
   | succ n=>rw [a1K,ih n (by have:L9 l+1=n+1:=h; omega)]
theorem b7b {g:Nat} {v:Value}:∀ (cs:List (Value×Nat)) (n:Nat) (vs:List Value),L9 cs=n→Y0 g cs n=some vs→Y0 (g+1) (M4 cs [(v,g+1)]) (n+1)=some (vs ++ [v]):=by
 intro cs
 induction cs with
 | nil=>
   intro n vs hl ht
   cases hl
   cases ht
   show (match Nat.ble (g+1) (g+1) with | true=>_ | false=>none)=_
   rw [D9]; rfl
 | cons x cs ih=>
   intro n vs hl ht
   cases n with
   | zero=>cases hl
   | succ n=>
     have hl':L9 cs=n:=by have:L9 cs+1=n+1:=hl; omega
     have ht':(match Nat.ble x.2 g with | true=>(match Y0 g cs n with | some vs=>some (x.1::vs) | none=>none) | false=>none)=some vs:=ht
     show (match Nat.ble x.2 (g+1) with | true=>(match Y0 (g+1) (M4 cs [(v,g+1)]) (n+1) with | some vs=>some (x.1::vs) | none=>none) | false=>none)=_
     cases hb:Nat.ble x.2 g with
     | false=>rw [hb] at ht'; cases ht'
     | true=>
       rw [hb] at ht'
       have hb':Nat.ble x.2 (g+1)=true:=by
        have:=Nat.le_of_ble_eq_true hb
        exact Nat.ble_eq_true_of_le (by omega)
       rw [hb']
       cases hc:Y0 g cs n with
       | none=>rw [hc] at ht'; cases ht'
       | some us=>
         rw [hc] at ht'
         cases ht'
         rw [ih n us hl' hc]
         rfl
theorem t36 (N:Nat) (call:o8) (m:Nat) (lb ab g:Nat) (cs:List (Value×Nat)) (ws:List (List UInt8)) (hw:ws.length<10000) (c:Nat) (h:Trie VObj) (r w:List Nat) (hm:m<9223372036854775808) (h37:∀ m:Nat,m<9223372036854775808→call 37 [.int .i64 (.ofNat m)]=M.pure (.ret (.string ⟨⟨Lib.decDigits m⟩⟩)))
 (H:Lst h lb ab g cs ws) (hlb:lb<c) (hab:ab<c) (hne:lb≠ab) :
 H6 (go (a3V H8 N call (.int .i64 (.ofNat m)) (.pointer (some ⟨lb, 0,some 0⟩))) ⟨c,h,r,w⟩) fun x s=>x=.ret (.tuple ⟨[]⟩)∧s.c=c+1∧Lst s.h lb ab (g+1) (M4 cs [(a6s (Lib.decDigits m),g+1)]) (ws ++ [Lib.decDigits m])∧∀ i,i<c→i≠lb→i≠ab→s.h.get i=h.get i:=by
 obtain ⟨h1,h2,h3,h4⟩:=H
 have q1:=h37 m hm
 have b1:Nat.beq lb c=false:=a7Z _ _ (by omega)
 have b2:Nat.beq c lb=false:=a7Z _ _ (by omega)
 have l1:=Y6 m (by omega)
 have tk:=b5E cs ws.length h4
 have hb:Nat.ble ws.length (L9 cs)=true:=by rw [h4]; exact D9 _
 have b3:Nat.beq lb ab=false:=a7Z _ _ hne
 have ft:a0A a9s (a1Y a9s [([lb], []),([], []),([], []),([], [c]),([ab,c], [ab]),([lb], [lb])]) [] [] 0=true:=a2v rfl (by simp only [b2,I5,H7,G5,F9,C8,q9,A9,q8,l8,l7,E5,C9])
 simp (config:={ maxSteps:=10000000 }) (disch:=first | assumption | omega | (simp only [O1,N8,N7,M9,F8,Nat.reduceMul,Nat.reduceLT,l9,w9,F3,j6,A8,E8,D8,I5,G9,I9,I8,H7,o9,D5,G8,Nat.reduceAdd,D7,E9,Nat.reduceBEq,G5,F9,d9,j5,l6,z8,D9,F7,F5,F4,G6,C8,q9,A9,q8,l8,l7,E5,C9,G7,IntKind.bits,D6,r9,o7] <;> omega) | assumption) only [a3V,a2u,a4b,ft,q1,h1,h2,h3,tk,J3,o9,D5,H9,ap9,a0u,a0s,V5,J6,I4,K3,J4,P7,P9,r9,o7,J3,X4,V.e1g,R5,d9,j5,T9,R9,U9,P5,O5,l9,w9,j6,H7,M8,Y5,R8,K8,M5,V8,H9,I6,F6,K9,M0,O6,J5,J7,G8,U5,Q0,R3,a0q,V7]
 refine H6.done ⟨rfl,rfl,⟨?_, ?_, ?_, ?_⟩,fun i hi n1 n2=>by simp (config:={ maxSteps:=10000000 }) (disch:=first | assumption | omega | (simp only [O1,N8,N7,M9,F8,Nat.reduceMul,Nat.reduceLT,l9,w9,F3,j6,A8,E8,D8,I5,G9,I9,I8,H7,o9,D5,G8,Nat.reduceAdd,D7,E9,Nat.reduceBEq,G5,F9,d9,j5,l6,z8,D9,F7,F5,F4,G6,C8,q9,A9,q8,l8,l7,E5,C9,G7,IntKind.bits,D6,r9,o7] <;> omega) | assumption) only [F6]⟩
 · simp only [I6,List.length_append,List.length_cons,List.length_nil,G8]
 · simp (config:={ maxSteps:=10000000 }) (disch:=first | assumption | omega | (simp only [O1,N8,N7,M9,F8,Nat.reduceMul,Nat.reduceLT,l9,w9,F3,j6,A8,E8,D8,I5,G9,I9,I8,H7,o9,D5,G8,Nat.reduceAdd,D7,E9,Nat.reduceBEq,G5,F9,d9,j5,l6,z8,D9,F7,F5,F4,G6,C8,q9,A9,q8,l8,l7,E5,C9,G7,IntKind.bits,D6,r9,o7] <;> omega) | assumption) only [F6,I6]; rfl
 · rw [List.length_append]; have:=b7b (v:=a6s (Lib.decDigits m)) cs ws.length _ h4 h3; rw [List.map_append]; exact this
 · rw [List.length_append,D6,h4]; rfl
theorem a0d {α β γ:Type} (x:Option (α×V.S)) (f:α→M β) (g:β→M γ):a3d (a3d x f) g=a3d x fun a=>M.bind (f a) g:=by
 cases x with
 | none=>rfl
 | some y=>rw [show y=(y.1,y.2) from rfl,I4,I4,J6]
theorem c2X:∀ ws:List (List UInt8),a4Z (ws.map a6s)=some ws:=by
 intro ws
 induction ws with
 | nil=>rfl
 | cons x ws ih=>rw [List.map_cons]; show a4Z (.string ⟨⟨x⟩⟩::_)=_; rw [X5,ih,M5]
theorem c5U {h:Trie VObj} {lb ab g c:Nat} {cs:List (Value×Nat)} {w0:List UInt8} {ws:List (List UInt8)} (H:Lst h lb ab g cs (w0::ws)) (hab:ab<c) (hw:ws.length<10000) (hlen:L9 (a5M [32] (w0::ws))<4294967296) (r w:List Nat) :
 go (a7L [.slice (some ⟨ab, 0,some g⟩) (w0::ws).length 1,.string ⟨⟨[32]⟩⟩]) ⟨c,h,r,w⟩=some (.string ⟨⟨a5M [32] (w0::ws)⟩⟩,⟨c,h,ab::r,w⟩):=by
 obtain ⟨h1,h2,h3,h4⟩:=H
 show go (a7L [.slice (some ⟨ab, 0,some g⟩) (ws.length+1) 1,.string ⟨⟨[32]⟩⟩]) ⟨c,h,r,w⟩=_
 rw [a0r,H9 hab,h2,K8,O6]
 rw [show Y0 g cs (ws.length+1)=some ((w0::ws).map a6s) from h3,M5,c2X,M5,H9 (show ws.length<4294967295 by omega)]
 rw [show (⟨⟨[32]⟩⟩:ByteArray).data.toList=[32] from rfl,H9 hlen]
 rfl
theorem c5A (L:List Nat) (a:Nat):a5z [32] (L.map Lib.decDigits ++ [Lib.decDigits a])=M4 (a7n L) (X8 a):=by
 induction L with
 | nil=>rw [List.map_nil,List.nil_append,X3,V3]; simp only [N9,X8,List.append_nil]; rfl
 | cons x L ih=>rw [List.map_cons,List.cons_append,X3,ih,b1O]; simp only [N9,X8,List.append_assoc,List.cons_append,List.nil_append]
theorem c5N (N:Nat) (call Y2:o8) (h36:∀ a b,call 36 [a,b]=a3V H8 N Y2 a b) (h37:∀ m:Nat,m<9223372036854775808→Y2 37 [.int .i64 (.ofNat m)]=M.pure (.ret (.string ⟨⟨Lib.decDigits m⟩⟩)))
 (c0:Nat) (h0:Trie VObj) (lb ab nb:Nat) (hlb:c0≤lb) (hab:c0≤ab) (hne:lb≠ab) (hn1:nb≠lb) (hn2:nb≠ab) (L:List Nat) (lv:Value) (H:Q6 c0 h0 lv (P6 (L.map Int.ofNat))) (hL:∀ m∈L,m<4294967296) (hl:L.length<1000) :
 ∀ (t:List Nat) (i k:Nat) (g0 g1 g2 g3 g4 g5 g6 g7:Value) (g:Nat) (cs:List (Value×Nat)) (ws:List (List UInt8)) (c:Nat) (h:Trie VObj) (r w:List Nat),L.drop i=t→t.length<k→ws.length+t.length<5000 →
 c0≤c→lb<c→ab<c→nb<c→(∀ b,b<c0→h.get b=h0.get b)→h.get nb=some (.cells [(.func (.func 36) ⟨[]⟩ ⟨[.pointer (some ⟨lb, 0,some 0⟩)]⟩, 0)] 0 false)→Lst h lb ab g cs ws →
 H6 (go (a2S (b4b H8 N call (.int .i64 (.ofNat L.length)) lv (.pointer (some ⟨nb, 0,some 0⟩))) k [g0,g1,g2,g3,g4,g5,g6,g7,.int .i64 (.ofNat i)]) ⟨c,h,r,w⟩)
  fun x s=>x.1=.exit 1∧c≤s.c∧(∃ g cs,Lst s.h lb ab g cs (ws ++ t.map Lib.decDigits))∧∀ i,i<c→i≠lb→i≠ab→s.h.get i=h.get i:=by
 intro t
 induction t with
 | nil=>
   intro i k g0 g1 g2 g3 g4 g5 g6 g7 g cs ws c h r w hd hk hws hc hlc hac hnc hh hn HL
   obtain ⟨k,rfl⟩:∃ m,k=m+1:=⟨k - 1,by simp at hk; omega⟩
   have hi:Nat.blt i L.length=false:=by
    have:L.length≤i:=by simpa [List.drop_eq_nil_iff] using hd
    cases q:Nat.blt i L.length with
    | false=>rfl
    | true=>have:i<L.length:=by simpa [Nat.blt_eq] using q
            omega
   simp (config:={ maxSteps:=10000000 }) (disch:=first | assumption | omega | (simp only [O1,N8,N7,M9,F8,Nat.reduceMul,Nat.reduceLT,l9,w9,F3,j6,A8,E8,D8,I5,G9,I9,I8,H7,o9,D5,G8,Nat.reduceAdd,D7,E9,Nat.reduceBEq,G5,F9,d9,j5,l6,z8,D9,F7,F5,F4,G6,C8,q9,A9,q8,l8,l7,E5,C9,G7,IntKind.bits,D6,r9,o7] <;> omega) | assumption) only [a1d,b6U,b4b,a2t,hi,bn,U0,U6,I4,K3,J2,X4,Y3,M6,a2N,V.e1g,a0t,a0G]
   exact H6.done ⟨rfl,Nat.le_refl _,⟨g,cs,by rw [List.map_nil,List.append_nil]; exact HL⟩,fun _ _ _ _=>rfl⟩
 | cons q t ih=>
   intro i k g0 g1 g2 g3 g4 g5 g6 g7 g cs ws c h r w hd hk hws hc hlc hac hnc hh hn HL
   obtain ⟨k,rfl⟩:∃ m,k=m+1:=⟨k - 1,by simp at hk; omega⟩
   have hil:i<L.length:=by
    have:=congrArg List.length hd; simp at this; omega
   have hi:Nat.blt i L.length=true:=H9 hil
   have hq:L[i]?=some q:=by
    have:=congrArg (fun t=>t[0]?) hd; simpa using this
   have hqm:q<4294967296:=hL q (List.mem_of_getElem? hq)
   have hd':L.drop (i+1)=t:=by
    have:=congrArg List.tail hd; simpa using this
   have hinc:=a4G i (by omega)
   rw [List.length_cons] at hws
   obtain ⟨p,b,_,e1,e2⟩:=H.read hc hh (i:=i) (x:=.int .i64 (.ofNat q)) (by rw [List.getElem?_map,List.getElem?_map,hq]; rfl)
   obtain ⟨x,s,e36,rfl,hsc,HL2,hfr⟩:=t36 N Y2 q lb ab g cs ws (by omega) c h (nb::b::r) w (by omega) h37 HL hlc hac hne
   obtain ⟨c2,h2,r2,w2⟩:=s
   simp only at hsc HL2 hfr
   subst hsc
   simp (config:={ maxSteps:=10000000 }) (disch:=first | assumption | omega | (simp only [O1,N8,N7,M9,F8,Nat.reduceMul,Nat.reduceLT,l9,w9,F3,j6,A8,E8,D8,I5,G9,I9,I8,H7,o9,D5,G8,Nat.reduceAdd,D7,E9,Nat.reduceBEq,G5,F9,d9,j5,l6,z8,D9,F7,F5,F4,G6,C8,q9,A9,q8,l8,l7,E5,C9,G7,IntKind.bits,D6,r9,o7] <;> omega) | assumption) only [a1d,b6U,b4b,a2t,hi,e1,e2,hn,U4,h36,e36,hinc,bn,U0,U6,J6,I4,K3,J4,r9,o7,J3,X4,Y3,M6,K6,V.e1g,Q9,a0t,a0G,M8,K8,M5,H9,O6,J5,J7]
   refine (ih (i+1) k _ _ _ _ _ _ _ _ _ _ (ws ++ [Lib.decDigits q]) (c+1) h2 _ _ hd' (by simp at hk; omega) (by rw [List.length_append,List.length_cons,List.length_nil]; omega) (by omega) (by omega) (by omega) (by omega) (fun b hb=>(hfr b (by omega) (by omega) (by omega)).trans (hh b hb)) ((hfr nb hnc hn1 hn2).trans hn) HL2).mono fun x s ⟨p1,p2,p3,p4⟩=>⟨p1,by omega, ?_,fun i hi n1 n2=>(p4 i (by omega) n1 n2).trans (hfr i hi n1 n2)⟩
   rw [List.map_cons,show ws ++ Lib.decDigits q::t.map Lib.decDigits=(ws ++ [Lib.decDigits q]) ++ t.map Lib.decDigits by rw [List.append_assoc]; rfl]
   exact p3
theorem d9G (N:Nat) (call:o8) (X:Ins) (tv lv:Value) (c:Nat) (h:Trie VObj) (h34:∀ hh,(∀ b,b<c→hh.get b=h.get b)→∃ z:List Nat→List Nat, ∀ r w,go (call 34 [I7 X tv lv]) ⟨c+1,hh,r,w⟩=some (.ret (.bool false),⟨c+1,hh,z r,w⟩))
 (Ht:Q6 c h tv (P6 X.types)) (Hl:Q6 c h lv (P6 X.labels)) (r w:List Nat) :
 H6 (go (a0c H8 N call (I7 X tv lv)) ⟨c,h,r,w⟩) fun x s=>x=.ret (.string ⟨⟨[]⟩⟩)∧∀ i,i<c→s.h.get i=h.get i:=by
 obtain ⟨z,h34'⟩:=h34 (upd h c (.cells [(.int .i64 X.op, 0),(.int .i64 X.A, 0),(.int .i64 X.B, 0),(.int .u64 (Int.ofNat X.N), 0),(.int .i64 X.k, 0),(.int .i64 X.v, 0),(.int .i64 X.i, 0),(tv, 0),(lv, 0)] 0 false)) (fun b hb=>F6 (by omega))
 obtain ⟨ta,te,rfl,_⟩:=Ht
 obtain ⟨la,le,rfl,_⟩:=Hl
 simp only [I7,List.length_map] at h34'
 simp (config:={ maxSteps:=10000000 }) (disch:=first | assumption | omega | (simp only [O1,N8,N7,M9,F8,Nat.reduceMul,Nat.reduceLT,l9,w9,F3,j6,A8,E8,D8,I5,G9,I9,I8,H7,o9,D5,G8,Nat.reduceAdd,D7,E9,Nat.reduceBEq,G5,F9,d9,j5,l6,z8,D9,F7,F5,F4,G6,C8,q9,A9,q8,l8,l7,E5,C9,G7,IntKind.bits,D6,r9,o7] <;> omega) | assumption) only [a0c,a2j,a2g,a1Z,a2e,a2i,a2a,a2d,a2c,a2b,a2h,a0O,a0X,a1t,a0N,a0Y,a1m,a1b,a0V,a1C,a1l,a1s,a1g,a1A,a1i,a1q,a1h,a1j,a0U,a1z,a1F,a0K,a1w,a1p,a1D,a0J,a1c,a1k,a1y,a1f,a0L,a0S,a0M,a0T,a1x,a0Z,a1B,a0W,a1o,a1e,a1n,a1v,Z9,a0R,a0a,a1u,Z8,a0Q,Z7,a0P,Z6,a1E,a0b,a1r,I7,List.length_map,h34',J3,I5,bn,un,U0,V5,U6,a1P,J6,I4,K3,J4,U3,P7,P9,J3,M6,V.e1g,R7,Q7,a0l,M7,Q8,K8,M5,H9,I6,K9,M0,O6,J5,J7,G8,Nat.add_zero]
 exact H6.done ⟨rfl,fun i hi=>by simp (config:={ maxSteps:=10000000 }) (disch:=first | assumption | omega | (simp only [O1,N8,N7,M9,F8,Nat.reduceMul,Nat.reduceLT,l9,w9,F3,j6,A8,E8,D8,I5,G9,I9,I8,H7,o9,D5,G8,Nat.reduceAdd,D7,E9,Nat.reduceBEq,G5,F9,d9,j5,l6,z8,D9,F7,F5,F4,G6,C8,q9,A9,q8,l8,l7,E5,C9,G7,IntKind.bits,D6,r9,o7] <;> omega) | assumption) only [F6]⟩
theorem d7R (N:Nat) (hNN:1000<N) (call Y2 call3:o8) (X:Ins) (tv lv:Value) (a b:Nat) (hA:X.A=.ofNat a) (hB:X.B=.ofNat b) (ha:a<4294967296) (hb:b<4294967296) (L:List Nat) (hX:X.labels=L.map Int.ofNat) (hL:∀ m∈L,m<4294967296) (hl:L.length<1000)
 (c:Nat) (h:Trie VObj) (h34:∀ hh,(∀ b,b<c→hh.get b=h.get b)→∃ z:List Nat→List Nat, ∀ r w,go (call 34 [I7 X tv lv]) ⟨c+1,hh,r,w⟩=some (.ret (.bool true),⟨c+1,hh,z r,w⟩))
 (C:Calls12 N call Y2 call3 X 3)
 (Ht:Q6 c h tv (P6 X.types)) (Hl:Q6 c h lv (P6 X.labels)) (r w:List Nat) :
 H6 (go (a0c H8 N call (I7 X tv lv)) ⟨c,h,r,w⟩) fun x s=>x=.ret (.string ⟨⟨M4 (V4 X.op) (M4 (a7n L) (X8 a))⟩⟩)∧∀ i,i<c→s.h.get i=h.get i:=by
 obtain ⟨z,h34'⟩:=h34 (upd h c (.cells [(.int .i64 X.op, 0),(.int .i64 X.A, 0),(.int .i64 X.B, 0),(.int .u64 (Int.ofNat X.N), 0),(.int .i64 X.k, 0),(.int .i64 X.v, 0),(.int .i64 X.i, 0),(tv, 0),(lv, 0)] 0 false)) (fun b hb=>F6 (by omega))
 obtain ⟨h35,h39,h36,h36',h37c,h37,h37',h38,h44,h96⟩:=C
 have Hl':=Hl
 rw [hX] at Hl'
 have hlen:X.labels.length=L.length:=by rw [hX,List.length_map]
 obtain ⟨ta,te,rfl,_⟩:=id Ht
 obtain ⟨la,le,rfl,_⟩:=id Hl
 simp only [I7,hA,hB,List.length_map,hlen] at h34' Hl'
 have nl:=X9 X.op
 simp (config:={ maxSteps:=10000000 }) (disch:=first | assumption | omega | (simp only [O1,N8,N7,M9,F8,Nat.reduceMul,Nat.reduceLT,l9,w9,F3,j6,A8,E8,D8,I5,G9,I9,I8,H7,o9,D5,G8,Nat.reduceAdd,D7,E9,Nat.reduceBEq,G5,F9,d9,j5,l6,z8,D9,F7,F5,F4,G6,C8,q9,A9,q8,l8,l7,E5,C9,G7,IntKind.bits,D6,r9,o7] <;> omega) | assumption) only [a0c,a2j,a2g,a1Z,a2e,a2i,a2a,a2d,a2c,a2b,a2h,a0O,a0X,a1t,a0N,a0Y,a1m,a1b,a0V,a1C,a1l,a1s,a1g,a1A,a1i,a1q,a1h,a1j,a0U,a1z,a1F,a0K,a1w,a1p,a1D,a0J,a1c,a1k,a1y,a1f,a0L,a0S,a0M,a0T,a1x,a0Z,a1B,a0W,a1o,a1e,a1n,a1v,Z9,a0R,a0a,a1u,Z8,a0Q,Z7,a0P,Z6,a1E,a0b,a1r,I7,hA,hB,hlen,List.length_map,h34',h35,h39,decide_true,J3,J2,V9,F7,F5,F4,G9,U4,H9,a0d,bn,un,U0,V5,U6,a1P,J6,I4,J4,U3,P7,P9,r9,o7,J3,J2,X4,Y3,M6,K6,V.e1g,Q9,P8,R7,Q7,a5G,a0l,d9,j5,l6,T9,R9,U9,P5,O5,l9,w9,j6,H7,M7,M8,Q8,Y5,a0D,R8,K8,M5,V8,H9,I6,F6,K9,M0,O6,S9,J5,J7,G8,Nat.add_zero,U5,Q0,R3]
 refine H6.bindS (c5N N call Y2 h36 h37 c h (c+1+1) (c+1) (c+1+1+1) (by omega) (by omega) (by omega) (by omega) (by omega) L _ Hl' hL hl L 0 N _ _ _ _ _ _ _ _ 0 [(.string ⟨⟨V4 X.op⟩⟩, 0)] [V4 X.op] _ _ _ _ rfl (by omega) (by rw [List.length_cons,List.length_nil]; omega) (by omega) (by omega) (by omega) (by omega) ?_ ?_ ?_) fun x s hq=>?_
 · intro b hb; simp (config:={ maxSteps:=10000000 }) (disch:=first | assumption | omega | (simp only [O1,N8,N7,M9,F8,Nat.reduceMul,Nat.reduceLT,l9,w9,F3,j6,A8,E8,D8,I5,G9,I9,I8,H7,o9,D5,G8,Nat.reduceAdd,D7,E9,Nat.reduceBEq,G5,F9,d9,j5,l6,z8,D9,F7,F5,F4,G6,C8,q9,A9,q8,l8,l7,E5,C9,G7,IntKind.bits,D6,r9,o7] <;> omega) | assumption) only [F6]
 · simp (config:={ maxSteps:=10000000 }) (disch:=first | assumption | omega | (simp only [O1,N8,N7,M9,F8,Nat.reduceMul,Nat.reduceLT,l9,w9,F3,j6,A8,E8,D8,I5,G9,I9,I8,H7,o9,D5,G8,Nat.reduceAdd,D7,E9,Nat.reduceBEq,G5,F9,d9,j5,l6,z8,D9,F7,F5,F4,G6,C8,q9,A9,q8,l8,l7,E5,C9,G7,IntKind.bits,D6,r9,o7] <;> omega) | assumption) only [I6]
 · refine ⟨?_, ?_,rfl,rfl⟩
   · simp (config:={ maxSteps:=10000000 }) (disch:=first | assumption | omega | (simp only [O1,N8,N7,M9,F8,Nat.reduceMul,Nat.reduceLT,l9,w9,F3,j6,A8,E8,D8,I5,G9,I9,I8,H7,o9,D5,G8,Nat.reduceAdd,D7,E9,Nat.reduceBEq,G5,F9,d9,j5,l6,z8,D9,F7,F5,F4,G6,C8,q9,A9,q8,l8,l7,E5,C9,G7,IntKind.bits,D6,r9,o7] <;> omega) | assumption) only [F6,I6,List.length_cons,List.length_nil]
   · simp (config:={ maxSteps:=10000000 }) (disch:=first | assumption | omega | (simp only [O1,N8,N7,M9,F8,Nat.reduceMul,Nat.reduceLT,l9,w9,F3,j6,A8,E8,D8,I5,G9,I9,I8,H7,o9,D5,G8,Nat.reduceAdd,D7,E9,Nat.reduceBEq,G5,F9,d9,j5,l6,z8,D9,F7,F5,F4,G6,C8,q9,A9,q8,l8,l7,E5,C9,G7,IntKind.bits,D6,r9,o7] <;> omega) | assumption) only [F6,I6]
 obtain ⟨x1,x2⟩:=x
 obtain ⟨c',h',r',w'⟩:=s
 obtain ⟨rfl,hc',⟨g,cs,HL⟩,hfr⟩:=hq
 simp only at hc' HL hfr
 have hbox:=hfr c (by omega) (by omega) (by omega)
 have hnum:=hfr (c+1+1+1) (by omega) (by omega) (by omega)
 simp (config:={ maxSteps:=10000000 }) (disch:=first | assumption | omega | (simp only [O1,N8,N7,M9,F8,Nat.reduceMul,Nat.reduceLT,l9,w9,F3,j6,A8,E8,D8,I5,G9,I9,I8,H7,o9,D5,G8,Nat.reduceAdd,D7,E9,Nat.reduceBEq,G5,F9,d9,j5,l6,z8,D9,F7,F5,F4,G6,C8,q9,A9,q8,l8,l7,E5,C9,G7,IntKind.bits,D6,r9,o7] <;> omega) | assumption) only [F6,I6] at hbox hnum
 simp (config:={ maxSteps:=10000000 }) (disch:=first | assumption | omega | (simp only [O1,N8,N7,M9,F8,Nat.reduceMul,Nat.reduceLT,l9,w9,F3,j6,A8,E8,D8,I5,G9,I9,I8,H7,o9,D5,G8,Nat.reduceAdd,D7,E9,Nat.reduceBEq,G5,F9,d9,j5,l6,z8,D9,F7,F5,F4,G6,C8,q9,A9,q8,l8,l7,E5,C9,G7,IntKind.bits,D6,r9,o7] <;> omega) | assumption) only [hbox,hnum,h36,U4,a0d,D7,J3,J6,I4,r9,o7,J3,X4,a2N,Q9,M8,K8,M5,H9,O6,S9,J5,J7]
 refine H6.bindS (t36 N Y2 a (c+1+1) (c+1) g cs _ (by rw [List.length_append,List.length_cons,List.length_nil,List.length_map]; omega) c' h' _ _ (by omega) h37 HL (by omega) (by omega) (by omega)) fun x s hq=>?_
 obtain ⟨c2,h2,r2,w2⟩:=s
 obtain ⟨rfl,hc2,HL2,hfr2⟩:=hq
 simp only at hc2 HL2 hfr2
 have HL3:Lst h2 (c+1+1) (c+1) (g+1) (M4 cs [(a6s (Lib.decDigits a),g+1)]) (V4 X.op::(L.map Lib.decDigits ++ [Lib.decDigits a])):=HL2
 have hj:a5M [32] (V4 X.op::(L.map Lib.decDigits ++ [Lib.decDigits a]))=M4 (V4 X.op) (M4 (a7n L) (X8 a)):=by rw [Y7,c5A]
 have hcl:=b0C L hL
 have hsl:=a2z a (by omega)
 have hcell:=HL3.cell
 have hgo:=c5U (c:=c2) HL3 (by omega) (by rw [List.length_append,List.length_cons,List.length_nil,List.length_map]; omega) (by rw [hj,D6,D6]; omega)
 rw [hj] at hgo
 simp (config:={ maxSteps:=10000000 }) (disch:=first | assumption | omega | (simp only [O1,N8,N7,M9,F8,Nat.reduceMul,Nat.reduceLT,l9,w9,F3,j6,A8,E8,D8,I5,G9,I9,I8,H7,o9,D5,G8,Nat.reduceAdd,D7,E9,Nat.reduceBEq,G5,F9,d9,j5,l6,z8,D9,F7,F5,F4,G6,C8,q9,A9,q8,l8,l7,E5,C9,G7,IntKind.bits,D6,r9,o7] <;> omega) | assumption) only [hcell,h44,h96,a2F,hgo,U6,J6,I4,K3,J4,X4,K6,V.e1g,M8,K8,M5,H9,O6,J5,J7]
 refine H6.done ⟨rfl,fun i hi=>?_⟩
 refine (hfr2 i (by omega) (by omega) (by omega)).trans ((hfr i (by omega) (by omega) (by omega)).trans ?_)
 simp (config:={ maxSteps:=10000000 }) (disch:=first | assumption | omega | (simp only [O1,N8,N7,M9,F8,Nat.reduceMul,Nat.reduceLT,l9,w9,F3,j6,A8,E8,D8,I5,G9,I9,I8,H7,o9,D5,G8,Nat.reduceAdd,D7,E9,Nat.reduceBEq,G5,F9,d9,j5,l6,z8,D9,F7,F5,F4,G6,C8,q9,A9,q8,l8,l7,E5,C9,G7,IntKind.bits,D6,r9,o7] <;> omega) | assumption) only [F6]
end Go.Proofs.YtmomonnlmbljoaaGreatDoor
end
