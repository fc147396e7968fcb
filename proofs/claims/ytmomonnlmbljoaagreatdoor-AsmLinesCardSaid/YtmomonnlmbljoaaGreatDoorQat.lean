import Derived.Test.YtmomonnlmbljoaaGreatDoorQas
section
namespace Go.Proofs.YtmomonnlmbljoaaGreatDoor
open Go.V Go.RowKit Go.Shelf Go.Proofs
set_option maxRecDepth 1000000
attribute [local congr] a0b Z9 a0A a0B a0M a0T
variable {mL:Int}
theorem d8v (n:Nat) (z:Int):J9 s4 (n + 1) 50 [.int .i64 z]=M.pure (.ret (.string ⟨⟨a2k z⟩⟩)):=a2P (q:=fun z=>some (.string ⟨⟨a2k z⟩⟩)) (by kernel_rfl) n rfl
theorem d6w (n:Nat) (z:Int):J9 s4 (n + 1) 54 [.int .i64 z]=M.pure (.ret (.bool (a2X z))):=a2P (q:=fun z=>some (.bool (a2X z))) (by kernel_rfl) n rfl
theorem d4M (n:Nat) (z:Int) (h1:-9223372036854775808 ≤ z) (h2:z ≤ 9223372036854775807):J9 s4 (n + 1) 55 [.int .i64 z]=M.pure (.ret (.string ⟨⟨Lib.itoa z⟩⟩)):=a2P (q:=q55) (by kernel_rfl) n (c8u z h1 h2)
theorem d4B:a0f Tryz.prog Q6 (W9 mL) 15 (XB a7Z):=c1n L4 Tryz.func15 (by kernel_rfl) rfl fun k v i x h=>by
 obtain ⟨h1,h2,rfl⟩:=b7y h
 exact ⟨rfl, 2,by rw [a3g (q:=b6n) (N:=NN) (by kernel_rfl) 1]; exact t15 _ _ (d8v 0) (d6w 0) k v i h1 h2 (d4M 0 i h1 h2)⟩
theorem b8C (mL:Int):a0N (fun x:Nat × Nat=>b1m (J9 s4 400 98 [.int .i64 (.ofNat x.1)] (Go.V.a5f (W9 mL))) x.2) a4O=true:=by kernel_rfl
theorem d1U:a0f Tryz.prog Q6 (W9 mL) 98 (X1 .i64 a6p):=b1C fun z v h=>by
 unfold a6p at h
 split at h
 · rename_i a ha
   cases h
   obtain ⟨x,hm,rfl,rfl⟩:=b2b z a4O a ha
   obtain ⟨s,hr⟩:=b0s ((a1a _ _).1 (b8C mL) x hm)
   exact ⟨rfl,a9w a2E a0O a8N a6e L4.e (L4 (mL:=mL)).s Tryz.func98 (by kernel_rfl) rfl rfl rfl hr⟩
 · cases h
noncomputable def a5p (N:Nat):List UInt8:=bcase (N.beq 0) [] (32 :: 111 :: 102 :: 102 :: 115 :: 101 :: 116 :: 61 :: Lib.decDigits N)
noncomputable def a5t (a al:Nat):List UInt8:=bcase (a.beq al) [] (32 :: 97 :: 108 :: 105 :: 103 :: 110 :: 61 :: Lib.decDigits (2 ^ a))
theorem a9e (a:Nat) (h:a ≤ 63):2 ^ a < 18446744073709551616:=Nat.lt_of_le_of_lt (Nat.pow_le_pow_right (by omega) h) (by decide)
theorem a6y (m:Nat) (hm:m < 18446744073709551616):M4 (a0V m) ≤ 21:=by
 unfold a0V
 cases Nat.beq m 0 with
 | true=>show M4 ([]:List UInt8) ≤ 21; decide
 | false=>exact a2T m hm
theorem t52 (N:Nat) (call:j5) (op:Int) (a b n al:Nat) (k v i:Int) (tv lv:Value) (hv:a1c tv=true ∧ a1c lv=true) (ha:a ≤ 63) (hb:b < 4294967296) (hn:n < 4294967296)
 (h49:call 49 [.int .i64 (.ofNat b)]=M.pure (.ret (.string ⟨⟨a0V b⟩⟩))) (h25:∀ m:Nat,m < 18446744073709551616 → call 25 [.int .u64 (.ofNat m)]=M.pure (.ret (.string ⟨⟨Lib.decDigits m⟩⟩)))
 (h98:call 98 [.int .i64 op]=M.pure (.ret (.int .i64 (.ofNat al)))) (c:Nat) (h:Trie VObj) (r w:List Nat) (t1 t2:Option Addr) (n1 e1 n2 e2:Nat) (htv:tv=.slice t1 n1 e1) (hlv:lv=.slice t2 n2 e2) :
 I6 (go (b1t G8 N call (.agg ⟨[.int .i64 op,.int .i64 (.ofNat a),.int .i64 (.ofNat b),.int .u64 (.ofNat n),.int .i64 k,.int .i64 v,.int .i64 i,tv,lv]⟩)) ⟨c,h,r,w⟩) fun x s=>x=.ret (.string ⟨⟨M6 (M6 (a0V b) (a5p n)) (a5t a al)⟩⟩) ∧ ∀ i,i < c → s.h.get i=h.get i:=by
 subst htv hlv
 have l1:=a6y b (by omega)
 have l2:M4 (Lib.decDigits n) ≤ 20:=by rw [a0m]; exact a4I _ (by omega)
 have l3:M4 (Lib.decDigits (2 ^ a)) ≤ 20:=by rw [a0m]; exact a4I _ (a9e a ha)
 have g1:=h25 n (by omega)
 have g2:=h25 (2 ^ a) (a9e a ha)
 have p1:a1d .u64 (Int.ofNat (2 ^ a))=Int.ofNat (2 ^ a):=a4o .u64 _ (a9e a ha)
 cases hN:n.beq 0 with
 | true=>
   cases hA:a.beq al with
   | true=>
     have e1:a5p n=[]:=by unfold a5p; rw [hN]; rfl
     have e2:a5t a al=[]:=by unfold a5t; rw [hA]; rfl
     simp (config:={ maxSteps:=10000000 }) (disch:=first | assumption | omega | (simp only [q9,C8,G7,F7,l8,D6,q8,F6,F3,Bool.not_false,Bool.not_true,Bool.and_true,Bool.true_and,Bool.and_self,r9,D5,Nat.zero_add,Nat.reduceAdd,j4,F8,Nat.reduceBEq,G9,H6,E5,j6,A8,l7,l6,l9,C9,j4,F4,G6,G5,F9,H8,H9,D7,z8,D9,w9,o8,o9,F5,D8,I7,IntKind.bits,E9,A9,o7] <;> omega) | assumption) only [b1t,b3m,b3c,b2P,b0o,b3e,b0x,h49,h98,V9,hN,hA,Bool.not_true,bn,U6,a0d,V6,K6,I8,M0,J8,O5,O4,A9,o7,J4,l_0,l_s,P5,L9,V.d9Z,Q8,a0S,a0n,Q0,K8,M9,K7,N9,I5,I9,K9,N8,O6,Q9,J6,J7,Nat.zero_add,Nat.add_zero,a0L,V8]
     exact I6.done ⟨by rw [e1,e2,M7,M7]; simp,fun i hi=>by simp (config:={ maxSteps:=10000000 }) (disch:=first | assumption | omega | (simp only [q9,C8,G7,F7,l8,D6,q8,F6,F3,Bool.not_false,Bool.not_true,Bool.and_true,Bool.true_and,Bool.and_self,r9,D5,Nat.zero_add,Nat.reduceAdd,j4,F8,Nat.reduceBEq,G9,H6,E5,j6,A8,l7,l6,l9,C9,j4,F4,G6,G5,F9,H8,H9,D7,z8,D9,w9,o8,o9,F5,D8,I7,IntKind.bits,E9,A9,o7] <;> omega) | assumption) only [E8]⟩
   | false=>
     have e1:a5p n=[]:=by unfold a5p; rw [hN]; rfl
     have e2:a5t a al=32 :: 97 :: 108 :: 105 :: 103 :: 110 :: 61 :: Lib.decDigits (2 ^ a):=by unfold a5t; rw [hA]; rfl
     simp (config:={ maxSteps:=10000000 }) (disch:=first | assumption | omega | (simp only [q9,C8,G7,F7,l8,D6,q8,F6,F3,Bool.not_false,Bool.not_true,Bool.and_true,Bool.true_and,Bool.and_self,r9,D5,Nat.zero_add,Nat.reduceAdd,j4,F8,Nat.reduceBEq,G9,H6,E5,j6,A8,l7,l6,l9,C9,j4,F4,G6,G5,F9,H8,H9,D7,z8,D9,w9,o8,o9,F5,D8,I7,IntKind.bits,E9,A9,o7] <;> omega) | assumption) only [b1t,b3m,b3c,b2P,b0o,b3e,b0x,h49,h98,V9,hN,hA,g2,Nat.one_mul,p1,Bool.not_true,Bool.not_false,bn,U6,a0d,V6,K6,I8,M0,J8,O5,O4,A9,o7,K4,J4,l_0,l_s,P5,L9,V.d9Z,Q8,a0S,a5T,a0n,Q0,K8,M9,K7,N9,I5,I9,K9,N8,O6,Q9,J6,J7,Nat.zero_add,Nat.add_zero,a0L,V8]
     exact I6.done ⟨by rw [e1,e2]; simp only [M7]; simp,fun i hi=>by simp (config:={ maxSteps:=10000000 }) (disch:=first | assumption | omega | (simp only [q9,C8,G7,F7,l8,D6,q8,F6,F3,Bool.not_false,Bool.not_true,Bool.and_true,Bool.true_and,Bool.and_self,r9,D5,Nat.zero_add,Nat.reduceAdd,j4,F8,Nat.reduceBEq,G9,H6,E5,j6,A8,l7,l6,l9,C9,j4,F4,G6,G5,F9,H8,H9,D7,z8,D9,w9,o8,o9,F5,D8,I7,IntKind.bits,E9,A9,o7] <;> omega) | assumption) only [E8]⟩
 | false=>
   cases hA:a.beq al with
   | true=>
     have e1:a5p n=32 :: 111 :: 102 :: 102 :: 115 :: 101 :: 116 :: 61 :: Lib.decDigits n:=by unfold a5p; rw [hN]; rfl
     have e2:a5t a al=[]:=by unfold a5t; rw [hA]; rfl
     simp (config:={ maxSteps:=10000000 }) (disch:=first | assumption | omega | (simp only [q9,C8,G7,F7,l8,D6,q8,F6,F3,Bool.not_false,Bool.not_true,Bool.and_true,Bool.true_and,Bool.and_self,r9,D5,Nat.zero_add,Nat.reduceAdd,j4,F8,Nat.reduceBEq,G9,H6,E5,j6,A8,l7,l6,l9,C9,j4,F4,G6,G5,F9,H8,H9,D7,z8,D9,w9,o8,o9,F5,D8,I7,IntKind.bits,E9,A9,o7] <;> omega) | assumption) only [b1t,b3m,b3c,b2P,b0o,b3e,b0x,h49,h98,V9,hN,hA,g1,Bool.not_true,Bool.not_false,bn,U6,a0d,V6,K6,I8,M0,J8,O5,O4,A9,o7,K4,J4,l_0,l_s,P5,L9,V.d9Z,Q8,a0S,a0n,Q0,K8,M9,K7,N9,I5,I9,K9,N8,O6,Q9,J6,J7,Nat.zero_add,Nat.add_zero,a0L,V8]
     exact I6.done ⟨by rw [e1,e2]; simp only [M7]; simp,fun i hi=>by simp (config:={ maxSteps:=10000000 }) (disch:=first | assumption | omega | (simp only [q9,C8,G7,F7,l8,D6,q8,F6,F3,Bool.not_false,Bool.not_true,Bool.and_true,Bool.true_and,Bool.and_self,r9,D5,Nat.zero_add,Nat.reduceAdd,j4,F8,Nat.reduceBEq,G9,H6,E5,j6,A8,l7,l6,l9,C9,j4,F4,G6,G5,F9,H8,H9,D7,z8,D9,w9,o8,o9,F5,D8,I7,IntKind.bits,E9,A9,o7] <;> omega) | assumption) only [E8]⟩
   | false=>
     have e1:a5p n=32 :: 111 :: 102 :: 102 :: 115 :: 101 :: 116 :: 61 :: Lib.decDigits n:=by unfold a5p; rw [hN]; rfl
     have e2:a5t a al=32 :: 97 :: 108 :: 105 :: 103 :: 110 :: 61 :: Lib.decDigits (2 ^ a):=by unfold a5t; rw [hA]; rfl
     simp (config:={ maxSteps:=10000000 }) (disch:=first | assumption | omega | (simp only [q9,C8,G7,F7,l8,D6,q8,F6,F3,Bool.not_false,Bool.not_true,Bool.and_true,Bool.true_and,Bool.and_self,r9,D5,Nat.zero_add,Nat.reduceAdd,j4,F8,Nat.reduceBEq,G9,H6,E5,j6,A8,l7,l6,l9,C9,j4,F4,G6,G5,F9,H8,H9,D7,z8,D9,w9,o8,o9,F5,D8,I7,IntKind.bits,E9,A9,o7] <;> omega) | assumption) only [b1t,b3m,b3c,b2P,b0o,b3e,b0x,h49,h98,V9,hN,hA,g1,g2,Nat.one_mul,p1,Bool.not_false,bn,U6,a0d,V6,K6,I8,M0,J8,O5,O4,A9,o7,K4,l_0,l_s,P5,L9,V.d9Z,Q8,a0S,a5T,a0n,Q0,K8,M9,K7,N9,I5,I9,K9,N8,O6,Q9,J6,J7,Nat.zero_add,Nat.add_zero,a0L,V8]
     exact I6.done ⟨by rw [e1,e2]; simp only [M7]; simp,fun i hi=>by simp (config:={ maxSteps:=10000000 }) (disch:=first | assumption | omega | (simp only [q9,C8,G7,F7,l8,D6,q8,F6,F3,Bool.not_false,Bool.not_true,Bool.and_true,Bool.true_and,Bool.and_self,r9,D5,Nat.zero_add,Nat.reduceAdd,j4,F8,Nat.reduceBEq,G9,H6,E5,j6,A8,l7,l6,l9,C9,j4,F4,G6,G5,F9,H8,H9,D7,z8,D9,w9,o8,o9,F5,D8,I7,IntKind.bits,E9,A9,o7] <;> omega) | assumption) only [E8]⟩
end Go.Proofs.YtmomonnlmbljoaaGreatDoor
end
section
namespace Go.Proofs.YtmomonnlmbljoaaGreatDoor
open Go.V Go.RowKit Go.Shelf Go.Proofs
set_option maxRecDepth 1000000
attribute [local congr] a0b Z9 a0A a0B a0M a0T
variable {mL:Int}
noncomputable def a7q (l:List Nat):List UInt8:=List.rec (motive:=fun _=>List UInt8) [] (fun m _ ih=>M6 (Z8 m) ih) l
theorem b1f (m:Nat) (l:List Nat):a7q (m :: l)=M6 (Z8 m) (a7q l):=rfl
theorem b2n (l:List Nat) (h:∀ m ∈ l,m < 4294967296):M4 (a7q l) ≤ 21 * l.length:=by
 induction l with
 | nil=>exact Nat.le_refl _
 | cons m l ih=>
   rw [b1f,E9,List.length_cons]
   have h1:=a2T m (by have:=h m List.mem_cons_self; omega)
   have h2:=ih (fun x hx=>h x (List.mem_cons_of_mem _ hx))
   omega
theorem c3L (N:Nat) (call:j5) (h47:∀ m:Nat,m < 18446744073709551616 → call 47 [.int .i64 (.ofNat m)]=M.pure (.ret (.string ⟨⟨Z8 m⟩⟩))) (c b0:Nat) (h:Trie VObj) (x0 x1 x2 x3 x4 x5 x6 x7 v:Value) (L:List Nat) (hb0:b0 < c)
 (h0:h.get b0=some (.cells [(x0, 0),(x1, 0),(x2, 0),(x3, 0),(x4, 0),(x5, 0),(x6, 0),(x7, 0),(v, 0)] 0 false)) (H:P6 c h v (O9 (L.map Int.ofNat))) (hL:∀ m ∈ L,m < 4294967296) (hl:L.length < 1000) :
 ∀ (t:List Nat) (i k:Nat) (g0 g1 g2 g3 g4 g5 g6 g7 g8 g9 g10 g11 g12 g14 g15:Value) (acc:List UInt8) (r w:List Nat),L.drop i=t → t.length < k → M4 acc + 21 * t.length ≤ 30000 →
 I6 (go (a4d (b5E G8 N call (.pointer (some ⟨b0, 0,some 0⟩))) k [g0,g1,g2,g3,g4,g5,g6,g7,g8,g9,g10,g11,g12,.string ⟨⟨acc⟩⟩,g14,g15,.int .i64 (.ofNat i)]) ⟨c,h,r,w⟩)
  fun x s=>s.c=c ∧ s.h=h ∧ x.1=.exit 0 ∧ d9 x.2 13=.string ⟨⟨M6 acc (a7q t)⟩⟩:=by
 intro t
 have hlen:=H.len
 rw [List.length_map,List.length_map] at hlen
 induction t with
 | nil=>
   intro i k g0 g1 g2 g3 g4 g5 g6 g7 g8 g9 g10 g11 g12 g14 g15 acc r w hd hk ha
   obtain ⟨k,rfl⟩:∃ m,k=m + 1:=⟨k - 1,by simp at hk; omega⟩
   have hi:Nat.blt i L.length=false:=by
    have:L.length ≤ i:=by simpa [List.drop_eq_nil_iff] using hd
    cases q:Nat.blt i L.length with
    | false=>rfl
    | true=>have:i < L.length:=by simpa [Nat.blt_eq] using q
            omega
   simp (config:={ maxSteps:=10000000 }) (disch:=first | assumption | omega | (simp only [q9,C8,G7,F7,l8,D6,q8,F6,F3,Bool.not_false,Bool.not_true,Bool.and_true,Bool.true_and,Bool.and_self,r9,D5,Nat.zero_add,Nat.reduceAdd,j4,F8,Nat.reduceBEq,G9,H6,E5,j6,A8,l7,l6,l9,C9,j4,F4,G6,G5,F9,H8,H9,D7,z8,D9,w9,o8,o9,F5,D8,I7,IntKind.bits,E9,A9,o7] <;> omega) | assumption) only [a3B,c1j,c1d,b5E,h0,hlen,a4Z,hi,bn,U6,V6,K6,I8,M0,J4,l_0,l_s,P5,a6z,V.d9Z,a2l,a2R,Q0,M9,K7,N9,I5,O6,Q9,J6,J7,Nat.zero_add]
   exact I6.done ⟨rfl,rfl,rfl,by show Value.string ⟨⟨acc⟩⟩=.string ⟨⟨M6 acc []⟩⟩; rw [M7,List.append_nil]⟩
 | cons q t ih=>
   intro i k g0 g1 g2 g3 g4 g5 g6 g7 g8 g9 g10 g11 g12 g14 g15 acc r w hd hk ha
   obtain ⟨k,rfl⟩:∃ m,k=m + 1:=⟨k - 1,by simp at hk; omega⟩
   have hil:i < L.length:=by
    have:=congrArg List.length hd; simp at this; omega
   have hi:Nat.blt i L.length=true:=I5 hil
   have hq:L[i]?=some q:=by
    have:=congrArg (fun t=>t[0]?) hd; simpa using this
   have hqm:q < 4294967296:=hL q (List.mem_of_getElem? hq)
   have hd':L.drop (i + 1)=t:=by
    have:=congrArg List.tail hd; simpa using this
   have hinc:=a7X i (by omega)
   have h1:=h47 q (by omega)
   have h2:=a2T q (by omega)
   rw [List.length_cons] at ha
   obtain ⟨p,b,_,e1,e2⟩:=H.read (Nat.le_refl c) (fun _ _=>rfl) (i:=i) (x:=.int .i64 (.ofNat q)) (by rw [List.getElem?_map,List.getElem?_map,hq]; rfl)
   simp (config:={ maxSteps:=10000000 }) (disch:=first | assumption | omega | (simp only [q9,C8,G7,F7,l8,D6,q8,F6,F3,Bool.not_false,Bool.not_true,Bool.and_true,Bool.true_and,Bool.and_self,r9,D5,Nat.zero_add,Nat.reduceAdd,j4,F8,Nat.reduceBEq,G9,H6,E5,j6,A8,l7,l6,l9,C9,j4,F4,G6,G5,F9,H8,H9,D7,z8,D9,w9,o8,o9,F5,D8,I7,IntKind.bits,E9,A9,o7] <;> omega) | assumption) only [a3B,c1j,c1d,b5E,h0,hlen,a4Z,hi,e1,e2,h1,hinc,bn,U6,V6,K6,I8,M0,J8,K4,l_0,l_s,P5,L9,V.d9Z,a2l,a2R,a0n,Q0,M9,K7,N9,I5,O6,Q9,J6,J7,Nat.zero_add]
   have e:M6 acc (a7q (q :: t))=M6 (M6 acc (Z8 q)) (a7q t):=by rw [b1f]; simp only [M7]; rw [List.append_assoc]
   rw [e]
   exact ih (i + 1) k _ _ _ _ _ _ _ _ _ _ _ _ _ _ _ _ _ _ hd' (by simp at hk; omega) (by rw [E9]; omega)
theorem t48 (N:Nat) (hN:1000 < N) (call:j5) (h47:∀ m:Nat,m < 18446744073709551616 → call 47 [.int .i64 (.ofNat m)]=M.pure (.ret (.string ⟨⟨Z8 m⟩⟩))) (X:Ins) (tv lv:Value) (a:Nat) (L:List Nat) (hA:X.A=.ofNat a) (ha:a < 4294967296) (hX:X.labels=L.map Int.ofNat) (hL:∀ m ∈ L,m < 4294967296) (hl:L.length < 1000)
 (c:Nat) (h:Trie VObj) (Ht:P6 c h tv (O9 X.types)) (Hl:P6 c h lv (O9 X.labels)) (r w:List Nat) :
 I6 (go (b8d G8 N call (H7 X tv lv)) ⟨c,h,r,w⟩) fun x s=>x=.ret (.string ⟨⟨M6 (a7q L) (Z8 a)⟩⟩) ∧ ∀ i,i < c → s.h.get i=h.get i:=by
 have hlv:=Hl.mono (Nat.le_succ c) (h':=upd h c (.cells [(.int .i64 X.op, 0),(.int .i64 X.A, 0),(.int .i64 X.B, 0),(.int .u64 (Int.ofNat X.N), 0),(.int .i64 X.k, 0),(.int .i64 X.v, 0),(.int .i64 X.i, 0),(tv, 0),(lv, 0)] 0 false)) (fun b hb=>E8 (by omega))
 rw [hX] at hlv
 obtain ⟨ta,te,rfl,_⟩:=id Ht
 obtain ⟨la,le,rfl,_⟩:=id Hl
 have h1:=h47 a (by omega)
 have h2:=a2T a (by omega)
 have h3:=b2n L hL
 rw [hA] at hlv
 simp (config:={ maxSteps:=10000000 }) (disch:=first | assumption | omega | (simp only [q9,C8,G7,F7,l8,D6,q8,F6,F3,Bool.not_false,Bool.not_true,Bool.and_true,Bool.true_and,Bool.and_self,r9,D5,Nat.zero_add,Nat.reduceAdd,j4,F8,Nat.reduceBEq,G9,H6,E5,j6,A8,l7,l6,l9,C9,j4,F4,G6,G5,F9,H8,H9,D7,z8,D9,w9,o8,o9,F5,D8,I7,IntKind.bits,E9,A9,o7] <;> omega) | assumption) only [b8d,H7,hA,bn,U6,a0d,V6,a2F,K6,I8,V.d9Z,Q0,K8,K9,N8,Nat.zero_add]
 refine I6.bindS (c3L N call h47 (c + 1) c _ _ _ _ _ _ _ _ _ _ L (by omega) (I9 _ _ _) hlv hL hl L 0 N _ _ _ _ _ _ _ _ _ _ _ _ _ _ _ [] _ _ rfl (by omega) (by show 0 + 21 * L.length ≤ 30000; omega)) fun x s hq=>?_
 obtain ⟨x1,x2⟩:=x
 obtain ⟨c',h',r',w'⟩:=s
 obtain ⟨rfl,rfl,rfl,e13⟩:=hq
 simp only at e13
 rw [A9] at e13
 simp (config:={ maxSteps:=10000000 }) (disch:=first | assumption | omega | (simp only [q9,C8,G7,F7,l8,D6,q8,F6,F3,Bool.not_false,Bool.not_true,Bool.and_true,Bool.true_and,Bool.and_self,r9,D5,Nat.zero_add,Nat.reduceAdd,j4,F8,Nat.reduceBEq,G9,H6,E5,j6,A8,l7,l6,l9,C9,j4,F4,G6,G5,F9,H8,H9,D7,z8,D9,w9,o8,o9,F5,D8,I7,IntKind.bits,E9,A9,o7] <;> omega) | assumption) only [K6,I8,M0,b4j,J8,a4b,l_0,a6z,V.d9Z,a0n,M9,K7,N9,I5,I9,O6,Q9,J6,J7,e13,h1]
 exact I6.done ⟨rfl,fun i hi=>by simp (config:={ maxSteps:=10000000 }) (disch:=first | assumption | omega | (simp only [q9,C8,G7,F7,l8,D6,q8,F6,F3,Bool.not_false,Bool.not_true,Bool.and_true,Bool.true_and,Bool.and_self,r9,D5,Nat.zero_add,Nat.reduceAdd,j4,F8,Nat.reduceBEq,G9,H6,E5,j6,A8,l7,l6,l9,C9,j4,F4,G6,G5,F9,H8,H9,D7,z8,D9,w9,o8,o9,F5,D8,I7,IntKind.bits,E9,A9,o7] <;> omega) | assumption) only [E8]⟩
end Go.Proofs.YtmomonnlmbljoaaGreatDoor
end
section
namespace Go.Proofs.YtmomonnlmbljoaaGreatDoor
open Go.V Go.RowKit Go.Shelf Go.Proofs
set_option maxRecDepth 1000000
set_option linter.unusedVariables false
attribute [local congr] a0b Z9 a0A a0B a0M a0T
variable {mL:Int}
noncomputable def a2O (K:Nat) (X:Ins):List UInt8:=
 bcase (K.beq 1) (bcase (decide (X.k=0)) [] (32 :: a5J X.k X.v X.i)) <|
 bcase (a5b K [2, 4, 7, 8, 12, 16]) (Z8 X.A.toNat) <|
 bcase (K.beq 3) (M6 (a7q (X.labels.map Int.toNat)) (Z8 X.A.toNat)) <|
 bcase (K.beq 5) (M6 (M6 (a0V X.B.toNat) [32, 40, 116, 121, 112, 101]) (M6 (Z8 X.A.toNat) [41])) <|
 bcase (K.beq 6) (M6 [32, 40, 114, 101, 115, 117, 108, 116, 32] (M6 (a2k (X.types.headD 0)) [41])) <|
 bcase (K.beq 9) (a0V X.A.toNat) <|
 bcase (a5b K [10, 14]) (a4L X.A.toNat X.B.toNat) <|
 bcase (a5b K [11, 15]) (M6 (a0V X.B.toNat) (Z8 X.A.toNat)) <|
 bcase (K.beq 13) (a0V X.B.toNat) <|
 bcase (K.beq 17) (M6 (M6 (a0V X.B.toNat) (a5p X.N)) (a5t X.A.toNat ((a4G a4O X.op).getD 0))) <|
 bcase (K.beq 18) (32 :: Lib.itoa (sgn 32 X.N)) <|
 bcase (K.beq 19) (32 :: Lib.itoa (sgn 64 X.N)) <|
 bcase (K.beq 20) (bcase (decide (X.A=3)) [32, 102, 117, 110, 99] [32, 101, 120, 116, 101, 114, 110]) []
noncomputable def a2a (X:Ins):List UInt8:=M6 (V7 X.op) (a2O (a0K X.op) X)
theorem b4J (m n:Nat) (hm:m < 18446744073709551616) (hn:n < 18446744073709551616):M4 (a4L m n) ≤ 42:=by
 unfold a4L
 cases Nat.beq m 0 && Nat.beq n 0 with
 | true=>show M4 ([]:List UInt8) ≤ 42; decide
 | false=>
   show M4 (Z8 m ++ Z8 n) ≤ 42
   rw [← M7,E9]
   have:=a2T m hm
   have:=a2T n hn
   omega
theorem b6f (k v i:Int) (h1:-9223372036854775808 ≤ i) (h2:i ≤ 9223372036854775807):M4 (a5J k v i) ≤ 30:=by
 unfold a5J
 have h3:=a7f v
 have h4:=a7o i h1 (by omega)
 rw [a0m] at h3 h4
 rw [a0m]
 cases decide (k=1) with
 | true=>cases a2X v with
   | true=>show (40 :: 114 :: 101 :: 115 :: 117 :: 108 :: 116 :: 32 :: (a2k v ++ [41])).length ≤ 30; simp; omega
   | false=>show ([]:List UInt8).length ≤ 30; decide
 | false=>cases decide (k=2) with
   | true=>show (40 :: 116 :: 121 :: 112 :: 101 :: 32 :: (Lib.itoa i ++ [41])).length ≤ 30; simp; omega
   | false=>show ([]:List UInt8).length ≤ 30; decide
theorem c3V (a al:Nat) (h:a ≤ 63):M4 (a5t a al) ≤ 30:=by
 unfold a5t
 have:=a4I (2 ^ a) (a9e a h)
 cases a.beq al with
 | true=>show M4 ([]:List UInt8) ≤ 30; decide
 | false=>rw [a0m]; show (32 :: 97 :: 108 :: 105 :: 103 :: 110 :: 61 :: Lib.decDigits (2 ^ a)).length ≤ 30; simp; omega
theorem c3A (n:Nat) (h:n < 18446744073709551616):M4 (a5p n) ≤ 30:=by
 unfold a5p
 have:=a4I n h
 cases n.beq 0 with
 | true=>show M4 ([]:List UInt8) ≤ 30; decide
 | false=>rw [a0m]; show (32 :: 111 :: 102 :: 102 :: 115 :: 101 :: 116 :: 61 :: Lib.decDigits n).length ≤ 30; simp; omega
end Go.Proofs.YtmomonnlmbljoaaGreatDoor
end
section
namespace Go.Proofs.YtmomonnlmbljoaaGreatDoor
open Go.V Go.RowKit Go.Shelf Go.Proofs
set_option maxRecDepth 1000000
set_option maxHeartbeats 2000000
set_option linter.unusedVariables false
attribute [local congr] a0b Z9 a0A a0B a0M a0T
variable {mL:Int}
theorem d2E (N:Nat) (call:j5) (X:Ins) (tv lv:Value) (a b:Nat) (hA:X.A=.ofNat a) (hB:X.B=.ofNat b) (ha:a < 4294967296) (hb:b < 4294967296)
 (c:Nat) (h:Trie VObj) (h19:∀ hh,(∀ b,b < c → hh.get b=h.get b) → ∃ z:List Nat → List Nat, ∀ r w,go (call 19 [H7 X tv lv]) ⟨c + 1,hh,r,w⟩=some (.ret (.bool true),⟨c + 1,hh,z r,w⟩))
 (h45:call 45 [.int .i64 X.op]=M.pure (.ret (.string ⟨⟨V7 X.op⟩⟩))) (h46:call 46 [.int .i64 X.op]=M.pure (.ret (.int .i64 (.ofNat 0))))
 (Ht:P6 c h tv (O9 X.types)) (Hl:P6 c h lv (O9 X.labels)) (r w:List Nat) :
 I6 (go (a0Y G8 N call (H7 X tv lv)) ⟨c,h,r,w⟩) fun x s=>x=.ret (.string ⟨⟨M6 (V7 X.op) []⟩⟩) ∧ ∀ i,i < c → s.h.get i=h.get i:=by
 obtain ⟨z,h19'⟩:=h19 (upd h c (.cells [(.int .i64 X.op, 0),(.int .i64 X.A, 0),(.int .i64 X.B, 0),(.int .u64 (Int.ofNat X.N), 0),(.int .i64 X.k, 0),(.int .i64 X.v, 0),(.int .i64 X.i, 0),(tv, 0),(lv, 0)] 0 false)) (fun b hb=>E8 (by omega))
 have Ht2:=Ht
 have Hl2:=Hl
 obtain ⟨ta,te,rfl,_⟩:=Ht
 obtain ⟨la,le,rfl,_⟩:=Hl
 simp only [H7,hA,hB,List.length_map] at h19'
 have nl:=a0e X.op
 simp (config:={ maxSteps:=10000000 }) (disch:=first | assumption | omega | (simp only [q9,C8,G7,F7,l8,D6,q8,F6,F3,Bool.not_false,Bool.not_true,Bool.and_true,Bool.true_and,Bool.and_self,r9,D5,Nat.zero_add,Nat.reduceAdd,j4,F8,Nat.reduceBEq,G9,H6,E5,j6,A8,l7,l6,l9,C9,j4,F4,G6,G5,F9,H8,H9,D7,z8,D9,w9,o8,o9,F5,D8,I7,IntKind.bits,E9,A9,o7] <;> omega) | assumption) only [a0Y,a4t,a4x,a4u,a4z,a4v,a4F,a4A,a4C,a4B,a4w,a3M,a3D,a3I,a3S,a3A,a3J,a3x,a3T,a3v,a3R,a3K,a3z,a3U,a3O,a3P,a3G,a3y,a3W,a3L,a3V,a3F,a3Q,a3w,a2D,a3C,a2C,a3H,H7,hA,hB,List.length_map,h19',h45,h46,J4,V9,G5,Bool.not_true,bn,un,U6,a0d,V6,K6,I8,M0,J8,O5,O4,J4,l_0,l_s,P5,L9,V.d9Z,Q7,U3,a0n,Q0,K8,M9,P8,K7,N9,I5,I9,K9,N8,O6,J6,J7,Nat.zero_add,Nat.add_zero]
 exact I6.done ⟨by simp only [M7,List.append_nil],fun i hi=>by simp (config:={ maxSteps:=10000000 }) (disch:=first | assumption | omega | (simp only [q9,C8,G7,F7,l8,D6,q8,F6,F3,Bool.not_false,Bool.not_true,Bool.and_true,Bool.true_and,Bool.and_self,r9,D5,Nat.zero_add,Nat.reduceAdd,j4,F8,Nat.reduceBEq,G9,H6,E5,j6,A8,l7,l6,l9,C9,j4,F4,G6,G5,F9,H8,H9,D7,z8,D9,w9,o8,o9,F5,D8,I7,IntKind.bits,E9,A9,o7] <;> omega) | assumption) only [E8]⟩
theorem d8D (N:Nat) (call:j5) (X:Ins) (tv lv:Value) (a b:Nat) (hA:X.A=.ofNat a) (hB:X.B=.ofNat b) (ha:a < 4294967296) (hb:b < 4294967296) (h47:∀ m:Nat,m < 18446744073709551616 → call 47 [.int .i64 (.ofNat m)]=M.pure (.ret (.string ⟨⟨Z8 m⟩⟩)))
 (c:Nat) (h:Trie VObj) (h19:∀ hh,(∀ b,b < c → hh.get b=h.get b) → ∃ z:List Nat → List Nat, ∀ r w,go (call 19 [H7 X tv lv]) ⟨c + 1,hh,r,w⟩=some (.ret (.bool true),⟨c + 1,hh,z r,w⟩))
 (h45:call 45 [.int .i64 X.op]=M.pure (.ret (.string ⟨⟨V7 X.op⟩⟩))) (h46:call 46 [.int .i64 X.op]=M.pure (.ret (.int .i64 (.ofNat 2))))
 (Ht:P6 c h tv (O9 X.types)) (Hl:P6 c h lv (O9 X.labels)) (r w:List Nat) :
 I6 (go (a0Y G8 N call (H7 X tv lv)) ⟨c,h,r,w⟩) fun x s=>x=.ret (.string ⟨⟨M6 (V7 X.op) (Z8 a)⟩⟩) ∧ ∀ i,i < c → s.h.get i=h.get i:=by
 obtain ⟨z,h19'⟩:=h19 (upd h c (.cells [(.int .i64 X.op, 0),(.int .i64 X.A, 0),(.int .i64 X.B, 0),(.int .u64 (Int.ofNat X.N), 0),(.int .i64 X.k, 0),(.int .i64 X.v, 0),(.int .i64 X.i, 0),(tv, 0),(lv, 0)] 0 false)) (fun b hb=>E8 (by omega))
 have Ht2:=Ht
 have Hl2:=Hl
 obtain ⟨ta,te,rfl,_⟩:=Ht
 obtain ⟨la,le,rfl,_⟩:=Hl
 simp only [H7,hA,hB,List.length_map] at h19'
 have nl:=a0e X.op
 have q1:=h47 a (by omega)
 have q2:=a2T a (by omega)
 simp (config:={ maxSteps:=10000000 }) (disch:=first | assumption | omega | (simp only [q9,C8,G7,F7,l8,D6,q8,F6,F3,Bool.not_false,Bool.not_true,Bool.and_true,Bool.true_and,Bool.and_self,r9,D5,Nat.zero_add,Nat.reduceAdd,j4,F8,Nat.reduceBEq,G9,H6,E5,j6,A8,l7,l6,l9,C9,j4,F4,G6,G5,F9,H8,H9,D7,z8,D9,w9,o8,o9,F5,D8,I7,IntKind.bits,E9,A9,o7] <;> omega) | assumption) only [a0Y,a4t,a4x,a4u,a4z,a4v,a4F,a4A,a4C,a4B,a4w,a3M,a3D,a3I,a3S,a3A,a3J,a3x,a3T,a3v,a3R,a3K,a3z,a3U,a3O,a3P,a3G,a3y,a3W,a3L,a3V,a3F,a3Q,a3w,a2D,a3C,a2C,a3H,H7,hA,hB,List.length_map,h19',h45,h46,decide_true,K4,J4,V9,G6,G5,F9,q1,Bool.not_true,bn,un,U6,a0d,V6,K6,I8,M0,J8,O5,O4,K4,J4,l_0,l_s,P5,L9,V.d9Z,Q7,U3,a0n,Q0,K8,M9,P8,K7,N9,I5,I9,K9,N8,O6,Q9,J6,J7,Nat.zero_add,Nat.add_zero]
 exact I6.done ⟨by simp only [M7],fun i hi=>by simp (config:={ maxSteps:=10000000 }) (disch:=first | assumption | omega | (simp only [q9,C8,G7,F7,l8,D6,q8,F6,F3,Bool.not_false,Bool.not_true,Bool.and_true,Bool.true_and,Bool.and_self,r9,D5,Nat.zero_add,Nat.reduceAdd,j4,F8,Nat.reduceBEq,G9,H6,E5,j6,A8,l7,l6,l9,C9,j4,F4,G6,G5,F9,H8,H9,D7,z8,D9,w9,o8,o9,F5,D8,I7,IntKind.bits,E9,A9,o7] <;> omega) | assumption) only [E8]⟩
theorem d8u (N:Nat) (call:j5) (X:Ins) (tv lv:Value) (a b:Nat) (hA:X.A=.ofNat a) (hB:X.B=.ofNat b) (ha:a < 4294967296) (hb:b < 4294967296) (h47:∀ m:Nat,m < 18446744073709551616 → call 47 [.int .i64 (.ofNat m)]=M.pure (.ret (.string ⟨⟨Z8 m⟩⟩)))
 (c:Nat) (h:Trie VObj) (h19:∀ hh,(∀ b,b < c → hh.get b=h.get b) → ∃ z:List Nat → List Nat, ∀ r w,go (call 19 [H7 X tv lv]) ⟨c + 1,hh,r,w⟩=some (.ret (.bool true),⟨c + 1,hh,z r,w⟩))
 (h45:call 45 [.int .i64 X.op]=M.pure (.ret (.string ⟨⟨V7 X.op⟩⟩))) (h46:call 46 [.int .i64 X.op]=M.pure (.ret (.int .i64 (.ofNat 4))))
 (Ht:P6 c h tv (O9 X.types)) (Hl:P6 c h lv (O9 X.labels)) (r w:List Nat) :
 I6 (go (a0Y G8 N call (H7 X tv lv)) ⟨c,h,r,w⟩) fun x s=>x=.ret (.string ⟨⟨M6 (V7 X.op) (Z8 a)⟩⟩) ∧ ∀ i,i < c → s.h.get i=h.get i:=by
 obtain ⟨z,h19'⟩:=h19 (upd h c (.cells [(.int .i64 X.op, 0),(.int .i64 X.A, 0),(.int .i64 X.B, 0),(.int .u64 (Int.ofNat X.N), 0),(.int .i64 X.k, 0),(.int .i64 X.v, 0),(.int .i64 X.i, 0),(tv, 0),(lv, 0)] 0 false)) (fun b hb=>E8 (by omega))
 have Ht2:=Ht
 have Hl2:=Hl
 obtain ⟨ta,te,rfl,_⟩:=Ht
 obtain ⟨la,le,rfl,_⟩:=Hl
 simp only [H7,hA,hB,List.length_map] at h19'
 have nl:=a0e X.op
 have q1:=h47 a (by omega)
 have q2:=a2T a (by omega)
 simp (config:={ maxSteps:=10000000 }) (disch:=first | assumption | omega | (simp only [q9,C8,G7,F7,l8,D6,q8,F6,F3,Bool.not_false,Bool.not_true,Bool.and_true,Bool.true_and,Bool.and_self,r9,D5,Nat.zero_add,Nat.reduceAdd,j4,F8,Nat.reduceBEq,G9,H6,E5,j6,A8,l7,l6,l9,C9,j4,F4,G6,G5,F9,H8,H9,D7,z8,D9,w9,o8,o9,F5,D8,I7,IntKind.bits,E9,A9,o7] <;> omega) | assumption) only [a0Y,a4t,a4x,a4u,a4z,a4v,a4F,a4A,a4C,a4B,a4w,a3M,a3D,a3I,a3S,a3A,a3J,a3x,a3T,a3v,a3R,a3K,a3z,a3U,a3O,a3P,a3G,a3y,a3W,a3L,a3V,a3F,a3Q,a3w,a2D,a3C,a2C,a3H,H7,hA,hB,List.length_map,h19',h45,h46,decide_true,K4,J4,V9,G6,G5,F9,q1,Bool.not_true,bn,un,U6,a0d,V6,K6,I8,M0,J8,O5,O4,K4,J4,l_0,l_s,P5,L9,V.d9Z,Q7,U3,a0n,Q0,K8,M9,P8,K7,N9,I5,I9,K9,N8,O6,Q9,J6,J7,Nat.zero_add,Nat.add_zero]
 exact I6.done ⟨by simp only [M7],fun i hi=>by simp (config:={ maxSteps:=10000000 }) (disch:=first | assumption | omega | (simp only [q9,C8,G7,F7,l8,D6,q8,F6,F3,Bool.not_false,Bool.not_true,Bool.and_true,Bool.true_and,Bool.and_self,r9,D5,Nat.zero_add,Nat.reduceAdd,j4,F8,Nat.reduceBEq,G9,H6,E5,j6,A8,l7,l6,l9,C9,j4,F4,G6,G5,F9,H8,H9,D7,z8,D9,w9,o8,o9,F5,D8,I7,IntKind.bits,E9,A9,o7] <;> omega) | assumption) only [E8]⟩
theorem d7n (N:Nat) (call:j5) (X:Ins) (tv lv:Value) (a b:Nat) (hA:X.A=.ofNat a) (hB:X.B=.ofNat b) (ha:a < 4294967296) (hb:b < 4294967296) (h47:∀ m:Nat,m < 18446744073709551616 → call 47 [.int .i64 (.ofNat m)]=M.pure (.ret (.string ⟨⟨Z8 m⟩⟩)))
 (c:Nat) (h:Trie VObj) (h19:∀ hh,(∀ b,b < c → hh.get b=h.get b) → ∃ z:List Nat → List Nat, ∀ r w,go (call 19 [H7 X tv lv]) ⟨c + 1,hh,r,w⟩=some (.ret (.bool true),⟨c + 1,hh,z r,w⟩))
 (h45:call 45 [.int .i64 X.op]=M.pure (.ret (.string ⟨⟨V7 X.op⟩⟩))) (h46:call 46 [.int .i64 X.op]=M.pure (.ret (.int .i64 (.ofNat 7))))
 (Ht:P6 c h tv (O9 X.types)) (Hl:P6 c h lv (O9 X.labels)) (r w:List Nat) :
 I6 (go (a0Y G8 N call (H7 X tv lv)) ⟨c,h,r,w⟩) fun x s=>x=.ret (.string ⟨⟨M6 (V7 X.op) (Z8 a)⟩⟩) ∧ ∀ i,i < c → s.h.get i=h.get i:=by
 obtain ⟨z,h19'⟩:=h19 (upd h c (.cells [(.int .i64 X.op, 0),(.int .i64 X.A, 0),(.int .i64 X.B, 0),(.int .u64 (Int.ofNat X.N), 0),(.int .i64 X.k, 0),(.int .i64 X.v, 0),(.int .i64 X.i, 0),(tv, 0),(lv, 0)] 0 false)) (fun b hb=>E8 (by omega))
 have Ht2:=Ht
 have Hl2:=Hl
 obtain ⟨ta,te,rfl,_⟩:=Ht
 obtain ⟨la,le,rfl,_⟩:=Hl
 simp only [H7,hA,hB,List.length_map] at h19'
 have nl:=a0e X.op
 have q1:=h47 a (by omega)
 have q2:=a2T a (by omega)
 simp (config:={ maxSteps:=10000000 }) (disch:=first | assumption | omega | (simp only [q9,C8,G7,F7,l8,D6,q8,F6,F3,Bool.not_false,Bool.not_true,Bool.and_true,Bool.true_and,Bool.and_self,r9,D5,Nat.zero_add,Nat.reduceAdd,j4,F8,Nat.reduceBEq,G9,H6,E5,j6,A8,l7,l6,l9,C9,j4,F4,G6,G5,F9,H8,H9,D7,z8,D9,w9,o8,o9,F5,D8,I7,IntKind.bits,E9,A9,o7] <;> omega) | assumption) only [a0Y,a4t,a4x,a4u,a4z,a4v,a4F,a4A,a4C,a4B,a4w,a3M,a3D,a3I,a3S,a3A,a3J,a3x,a3T,a3v,a3R,a3K,a3z,a3U,a3O,a3P,a3G,a3y,a3W,a3L,a3V,a3F,a3Q,a3w,a2D,a3C,a2C,a3H,H7,hA,hB,List.length_map,h19',h45,h46,decide_true,K4,J4,V9,G6,G5,F9,q1,Bool.not_true,bn,un,U6,a0d,V6,K6,I8,M0,J8,O5,O4,K4,J4,l_0,l_s,P5,L9,V.d9Z,Q7,U3,a0n,Q0,K8,M9,P8,K7,N9,I5,I9,K9,N8,O6,Q9,J6,J7,Nat.zero_add,Nat.add_zero]
 exact I6.done ⟨by simp only [M7],fun i hi=>by simp (config:={ maxSteps:=10000000 }) (disch:=first | assumption | omega | (simp only [q9,C8,G7,F7,l8,D6,q8,F6,F3,Bool.not_false,Bool.not_true,Bool.and_true,Bool.true_and,Bool.and_self,r9,D5,Nat.zero_add,Nat.reduceAdd,j4,F8,Nat.reduceBEq,G9,H6,E5,j6,A8,l7,l6,l9,C9,j4,F4,G6,G5,F9,H8,H9,D7,z8,D9,w9,o8,o9,F5,D8,I7,IntKind.bits,E9,A9,o7] <;> omega) | assumption) only [E8]⟩
theorem d8c (N:Nat) (call:j5) (X:Ins) (tv lv:Value) (a b:Nat) (hA:X.A=.ofNat a) (hB:X.B=.ofNat b) (ha:a < 4294967296) (hb:b < 4294967296) (h47:∀ m:Nat,m < 18446744073709551616 → call 47 [.int .i64 (.ofNat m)]=M.pure (.ret (.string ⟨⟨Z8 m⟩⟩)))
 (c:Nat) (h:Trie VObj) (h19:∀ hh,(∀ b,b < c → hh.get b=h.get b) → ∃ z:List Nat → List Nat, ∀ r w,go (call 19 [H7 X tv lv]) ⟨c + 1,hh,r,w⟩=some (.ret (.bool true),⟨c + 1,hh,z r,w⟩))
 (h45:call 45 [.int .i64 X.op]=M.pure (.ret (.string ⟨⟨V7 X.op⟩⟩))) (h46:call 46 [.int .i64 X.op]=M.pure (.ret (.int .i64 (.ofNat 8))))
 (Ht:P6 c h tv (O9 X.types)) (Hl:P6 c h lv (O9 X.labels)) (r w:List Nat) :
 I6 (go (a0Y G8 N call (H7 X tv lv)) ⟨c,h,r,w⟩) fun x s=>x=.ret (.string ⟨⟨M6 (V7 X.op) (Z8 a)⟩⟩) ∧ ∀ i,i < c → s.h.get i=h.get i:=by
 obtain ⟨z,h19'⟩:=h19 (upd h c (.cells [(.int .i64 X.op, 0),(.int .i64 X.A, 0),(.int .i64 X.B, 0),(.int .u64 (Int.ofNat X.N), 0),(.int .i64 X.k, 0),(.int .i64 X.v, 0),(.int .i64 X.i, 0),(tv, 0),(lv, 0)] 0 false)) (fun b hb=>E8 (by omega))
 have Ht2:=Ht
 have Hl2:=Hl
 obtain ⟨ta,te,rfl,_⟩:=Ht
 obtain ⟨la,le,rfl,_⟩:=Hl
 simp only [H7,hA,hB,List.length_map] at h19'
 have nl:=a0e X.op
 have q1:=h47 a (by omega)
 have q2:=a2T a (by omega)
 simp (config:={ maxSteps:=10000000 }) (disch:=first | assumption | omega | (simp only [q9,C8,G7,F7,l8,D6,q8,F6,F3,Bool.not_false,Bool.not_true,Bool.and_true,Bool.true_and,Bool.and_self,r9,D5,Nat.zero_add,Nat.reduceAdd,j4,F8,Nat.reduceBEq,G9,H6,E5,j6,A8,l7,l6,l9,C9,j4,F4,G6,G5,F9,H8,H9,D7,z8,D9,w9,o8,o9,F5,D8,I7,IntKind.bits,E9,A9,o7] <;> omega) | assumption) only [a0Y,a4t,a4x,a4u,a4z,a4v,a4F,a4A,a4C,a4B,a4w,a3M,a3D,a3I,a3S,a3A,a3J,a3x,a3T,a3v,a3R,a3K,a3z,a3U,a3O,a3P,a3G,a3y,a3W,a3L,a3V,a3F,a3Q,a3w,a2D,a3C,a2C,a3H,H7,hA,hB,List.length_map,h19',h45,h46,decide_true,K4,J4,V9,G6,G5,F9,q1,Bool.not_true,bn,un,U6,a0d,V6,K6,I8,M0,J8,O5,O4,K4,J4,l_0,l_s,P5,L9,V.d9Z,Q7,U3,a0n,Q0,K8,M9,P8,K7,N9,I5,I9,K9,N8,O6,Q9,J6,J7,Nat.zero_add,Nat.add_zero]
 exact I6.done ⟨by simp only [M7],fun i hi=>by simp (config:={ maxSteps:=10000000 }) (disch:=first | assumption | omega | (simp only [q9,C8,G7,F7,l8,D6,q8,F6,F3,Bool.not_false,Bool.not_true,Bool.and_true,Bool.true_and,Bool.and_self,r9,D5,Nat.zero_add,Nat.reduceAdd,j4,F8,Nat.reduceBEq,G9,H6,E5,j6,A8,l7,l6,l9,C9,j4,F4,G6,G5,F9,H8,H9,D7,z8,D9,w9,o8,o9,F5,D8,I7,IntKind.bits,E9,A9,o7] <;> omega) | assumption) only [E8]⟩
end Go.Proofs.YtmomonnlmbljoaaGreatDoor
end
section
namespace Go.Proofs.YtmomonnlmbljoaaGreatDoor
open Go.V Go.RowKit Go.Shelf Go.Proofs
set_option maxRecDepth 1000000
set_option maxHeartbeats 2000000
set_option linter.unusedVariables false
attribute [local congr] a0b Z9 a0A a0B a0M a0T
variable {mL:Int}
theorem c9i (N:Nat) (call:j5) (X:Ins) (tv lv:Value) (a b:Nat) (hA:X.A=.ofNat a) (hB:X.B=.ofNat b) (ha:a < 4294967296) (hb:b < 4294967296) (h47:∀ m:Nat,m < 18446744073709551616 → call 47 [.int .i64 (.ofNat m)]=M.pure (.ret (.string ⟨⟨Z8 m⟩⟩)))
 (c:Nat) (h:Trie VObj) (h19:∀ hh,(∀ b,b < c → hh.get b=h.get b) → ∃ z:List Nat → List Nat, ∀ r w,go (call 19 [H7 X tv lv]) ⟨c + 1,hh,r,w⟩=some (.ret (.bool true),⟨c + 1,hh,z r,w⟩))
 (h45:call 45 [.int .i64 X.op]=M.pure (.ret (.string ⟨⟨V7 X.op⟩⟩))) (h46:call 46 [.int .i64 X.op]=M.pure (.ret (.int .i64 (.ofNat 12))))
 (Ht:P6 c h tv (O9 X.types)) (Hl:P6 c h lv (O9 X.labels)) (r w:List Nat) :
 I6 (go (a0Y G8 N call (H7 X tv lv)) ⟨c,h,r,w⟩) fun x s=>x=.ret (.string ⟨⟨M6 (V7 X.op) (Z8 a)⟩⟩) ∧ ∀ i,i < c → s.h.get i=h.get i:=by
 obtain ⟨z,h19'⟩:=h19 (upd h c (.cells [(.int .i64 X.op, 0),(.int .i64 X.A, 0),(.int .i64 X.B, 0),(.int .u64 (Int.ofNat X.N), 0),(.int .i64 X.k, 0),(.int .i64 X.v, 0),(.int .i64 X.i, 0),(tv, 0),(lv, 0)] 0 false)) (fun b hb=>E8 (by omega))
 have Ht2:=Ht
 have Hl2:=Hl
 obtain ⟨ta,te,rfl,_⟩:=Ht
 obtain ⟨la,le,rfl,_⟩:=Hl
 simp only [H7,hA,hB,List.length_map] at h19'
 have nl:=a0e X.op
 have q1:=h47 a (by omega)
 have q2:=a2T a (by omega)
 simp (config:={ maxSteps:=10000000 }) (disch:=first | assumption | omega | (simp only [q9,C8,G7,F7,l8,D6,q8,F6,F3,Bool.not_false,Bool.not_true,Bool.and_true,Bool.true_and,Bool.and_self,r9,D5,Nat.zero_add,Nat.reduceAdd,j4,F8,Nat.reduceBEq,G9,H6,E5,j6,A8,l7,l6,l9,C9,j4,F4,G6,G5,F9,H8,H9,D7,z8,D9,w9,o8,o9,F5,D8,I7,IntKind.bits,E9,A9,o7] <;> omega) | assumption) only [a0Y,a4t,a4x,a4u,a4z,a4v,a4F,a4A,a4C,a4B,a4w,a3M,a3D,a3I,a3S,a3A,a3J,a3x,a3T,a3v,a3R,a3K,a3z,a3U,a3O,a3P,a3G,a3y,a3W,a3L,a3V,a3F,a3Q,a3w,a2D,a3C,a2C,a3H,H7,hA,hB,List.length_map,h19',h45,h46,decide_true,K4,J4,V9,G6,G5,F9,q1,Bool.not_true,bn,un,U6,a0d,V6,K6,I8,M0,J8,O5,O4,K4,J4,l_0,l_s,P5,L9,V.d9Z,Q7,U3,a0n,Q0,K8,M9,P8,K7,N9,I5,I9,K9,N8,O6,Q9,J6,J7,Nat.zero_add,Nat.add_zero]
 exact I6.done ⟨by simp only [M7],fun i hi=>by simp (config:={ maxSteps:=10000000 }) (disch:=first | assumption | omega | (simp only [q9,C8,G7,F7,l8,D6,q8,F6,F3,Bool.not_false,Bool.not_true,Bool.and_true,Bool.true_and,Bool.and_self,r9,D5,Nat.zero_add,Nat.reduceAdd,j4,F8,Nat.reduceBEq,G9,H6,E5,j6,A8,l7,l6,l9,C9,j4,F4,G6,G5,F9,H8,H9,D7,z8,D9,w9,o8,o9,F5,D8,I7,IntKind.bits,E9,A9,o7] <;> omega) | assumption) only [E8]⟩
theorem d0d (N:Nat) (call:j5) (X:Ins) (tv lv:Value) (a b:Nat) (hA:X.A=.ofNat a) (hB:X.B=.ofNat b) (ha:a < 4294967296) (hb:b < 4294967296) (h47:∀ m:Nat,m < 18446744073709551616 → call 47 [.int .i64 (.ofNat m)]=M.pure (.ret (.string ⟨⟨Z8 m⟩⟩)))
 (c:Nat) (h:Trie VObj) (h19:∀ hh,(∀ b,b < c → hh.get b=h.get b) → ∃ z:List Nat → List Nat, ∀ r w,go (call 19 [H7 X tv lv]) ⟨c + 1,hh,r,w⟩=some (.ret (.bool true),⟨c + 1,hh,z r,w⟩))
 (h45:call 45 [.int .i64 X.op]=M.pure (.ret (.string ⟨⟨V7 X.op⟩⟩))) (h46:call 46 [.int .i64 X.op]=M.pure (.ret (.int .i64 (.ofNat 16))))
 (Ht:P6 c h tv (O9 X.types)) (Hl:P6 c h lv (O9 X.labels)) (r w:List Nat) :
 I6 (go (a0Y G8 N call (H7 X tv lv)) ⟨c,h,r,w⟩) fun x s=>x=.ret (.string ⟨⟨M6 (V7 X.op) (Z8 a)⟩⟩) ∧ ∀ i,i < c → s.h.get i=h.get i:=by
 obtain ⟨z,h19'⟩:=h19 (upd h c (.cells [(.int .i64 X.op, 0),(.int .i64 X.A, 0),(.int .i64 X.B, 0),(.int .u64 (Int.ofNat X.N), 0),(.int .i64 X.k, 0),(.int .i64 X.v, 0),(.int .i64 X.i, 0),(tv, 0),(lv, 0)] 0 false)) (fun b hb=>E8 (by omega))
 have Ht2:=Ht
 have Hl2:=Hl
 obtain ⟨ta,te,rfl,_⟩:=Ht
 obtain ⟨la,le,rfl,_⟩:=Hl
 simp only [H7,hA,hB,List.length_map] at h19'
 have nl:=a0e X.op
 have q1:=h47 a (by omega)
 have q2:=a2T a (by omega)
 simp (config:={ maxSteps:=10000000 }) (disch:=first | assumption | omega | (simp only [q9,C8,G7,F7,l8,D6,q8,F6,F3,Bool.not_false,Bool.not_true,Bool.and_true,Bool.true_and,Bool.and_self,r9,D5,Nat.zero_add,Nat.reduceAdd,j4,F8,Nat.reduceBEq,G9,H6,E5,j6,A8,l7,l6,l9,C9,j4,F4,G6,G5,F9,H8,H9,D7,z8,D9,w9,o8,o9,F5,D8,I7,IntKind.bits,E9,A9,o7] <;> omega) | assumption) only [a0Y,a4t,a4x,a4u,a4z,a4v,a4F,a4A,a4C,a4B,a4w,a3M,a3D,a3I,a3S,a3A,a3J,a3x,a3T,a3v,a3R,a3K,a3z,a3U,a3O,a3P,a3G,a3y,a3W,a3L,a3V,a3F,a3Q,a3w,a2D,a3C,a2C,a3H,H7,hA,hB,List.length_map,h19',h45,h46,decide_true,K4,J4,V9,G6,G5,F9,q1,Bool.not_true,bn,un,U6,a0d,V6,K6,I8,M0,J8,O5,O4,K4,J4,l_0,l_s,P5,L9,V.d9Z,Q7,U3,a0n,Q0,K8,M9,P8,K7,N9,I5,I9,K9,N8,O6,Q9,J6,J7,Nat.zero_add,Nat.add_zero]
 exact I6.done ⟨by simp only [M7],fun i hi=>by simp (config:={ maxSteps:=10000000 }) (disch:=first | assumption | omega | (simp only [q9,C8,G7,F7,l8,D6,q8,F6,F3,Bool.not_false,Bool.not_true,Bool.and_true,Bool.true_and,Bool.and_self,r9,D5,Nat.zero_add,Nat.reduceAdd,j4,F8,Nat.reduceBEq,G9,H6,E5,j6,A8,l7,l6,l9,C9,j4,F4,G6,G5,F9,H8,H9,D7,z8,D9,w9,o8,o9,F5,D8,I7,IntKind.bits,E9,A9,o7] <;> omega) | assumption) only [E8]⟩
theorem d4Z (N:Nat) (call:j5) (X:Ins) (tv lv:Value) (a b:Nat) (hA:X.A=.ofNat a) (hB:X.B=.ofNat b) (ha:a < 4294967296) (hb:b < 4294967296) (h49:∀ m:Nat,m < 18446744073709551616 → call 49 [.int .i64 (.ofNat m)]=M.pure (.ret (.string ⟨⟨a0V m⟩⟩)))
 (c:Nat) (h:Trie VObj) (h19:∀ hh,(∀ b,b < c → hh.get b=h.get b) → ∃ z:List Nat → List Nat, ∀ r w,go (call 19 [H7 X tv lv]) ⟨c + 1,hh,r,w⟩=some (.ret (.bool true),⟨c + 1,hh,z r,w⟩))
 (h45:call 45 [.int .i64 X.op]=M.pure (.ret (.string ⟨⟨V7 X.op⟩⟩))) (h46:call 46 [.int .i64 X.op]=M.pure (.ret (.int .i64 (.ofNat 9))))
 (Ht:P6 c h tv (O9 X.types)) (Hl:P6 c h lv (O9 X.labels)) (r w:List Nat) :
 I6 (go (a0Y G8 N call (H7 X tv lv)) ⟨c,h,r,w⟩) fun x s=>x=.ret (.string ⟨⟨M6 (V7 X.op) (a0V a)⟩⟩) ∧ ∀ i,i < c → s.h.get i=h.get i:=by
 obtain ⟨z,h19'⟩:=h19 (upd h c (.cells [(.int .i64 X.op, 0),(.int .i64 X.A, 0),(.int .i64 X.B, 0),(.int .u64 (Int.ofNat X.N), 0),(.int .i64 X.k, 0),(.int .i64 X.v, 0),(.int .i64 X.i, 0),(tv, 0),(lv, 0)] 0 false)) (fun b hb=>E8 (by omega))
 have Ht2:=Ht
 have Hl2:=Hl
 obtain ⟨ta,te,rfl,_⟩:=Ht
 obtain ⟨la,le,rfl,_⟩:=Hl
 simp only [H7,hA,hB,List.length_map] at h19'
 have nl:=a0e X.op
 have q1:=h49 a (by omega)
 have q2:=a6y a (by omega)
 simp (config:={ maxSteps:=10000000 }) (disch:=first | assumption | omega | (simp only [q9,C8,G7,F7,l8,D6,q8,F6,F3,Bool.not_false,Bool.not_true,Bool.and_true,Bool.true_and,Bool.and_self,r9,D5,Nat.zero_add,Nat.reduceAdd,j4,F8,Nat.reduceBEq,G9,H6,E5,j6,A8,l7,l6,l9,C9,j4,F4,G6,G5,F9,H8,H9,D7,z8,D9,w9,o8,o9,F5,D8,I7,IntKind.bits,E9,A9,o7] <;> omega) | assumption) only [a0Y,a4t,a4x,a4u,a4z,a4v,a4F,a4A,a4C,a4B,a4w,a3M,a3D,a3I,a3S,a3A,a3J,a3x,a3T,a3v,a3R,a3K,a3z,a3U,a3O,a3P,a3G,a3y,a3W,a3L,a3V,a3F,a3Q,a3w,a2D,a3C,a2C,a3H,H7,hA,hB,List.length_map,h19',h45,h46,decide_true,K4,J4,V9,G6,G5,F9,q1,Bool.not_true,bn,un,U6,a0d,V6,K6,I8,M0,J8,O5,O4,K4,J4,l_0,l_s,P5,L9,V.d9Z,Q7,U3,a0n,Q0,K8,M9,P8,K7,N9,I5,I9,K9,N8,O6,Q9,J6,J7,Nat.zero_add,Nat.add_zero]
 exact I6.done ⟨by simp only [M7],fun i hi=>by simp (config:={ maxSteps:=10000000 }) (disch:=first | assumption | omega | (simp only [q9,C8,G7,F7,l8,D6,q8,F6,F3,Bool.not_false,Bool.not_true,Bool.and_true,Bool.true_and,Bool.and_self,r9,D5,Nat.zero_add,Nat.reduceAdd,j4,F8,Nat.reduceBEq,G9,H6,E5,j6,A8,l7,l6,l9,C9,j4,F4,G6,G5,F9,H8,H9,D7,z8,D9,w9,o8,o9,F5,D8,I7,IntKind.bits,E9,A9,o7] <;> omega) | assumption) only [E8]⟩
theorem c9h (N:Nat) (call:j5) (X:Ins) (tv lv:Value) (a b:Nat) (hA:X.A=.ofNat a) (hB:X.B=.ofNat b) (ha:a < 4294967296) (hb:b < 4294967296) (h49:∀ m:Nat,m < 18446744073709551616 → call 49 [.int .i64 (.ofNat m)]=M.pure (.ret (.string ⟨⟨a0V m⟩⟩)))
 (c:Nat) (h:Trie VObj) (h19:∀ hh,(∀ b,b < c → hh.get b=h.get b) → ∃ z:List Nat → List Nat, ∀ r w,go (call 19 [H7 X tv lv]) ⟨c + 1,hh,r,w⟩=some (.ret (.bool true),⟨c + 1,hh,z r,w⟩))
 (h45:call 45 [.int .i64 X.op]=M.pure (.ret (.string ⟨⟨V7 X.op⟩⟩))) (h46:call 46 [.int .i64 X.op]=M.pure (.ret (.int .i64 (.ofNat 13))))
 (Ht:P6 c h tv (O9 X.types)) (Hl:P6 c h lv (O9 X.labels)) (r w:List Nat) :
 I6 (go (a0Y G8 N call (H7 X tv lv)) ⟨c,h,r,w⟩) fun x s=>x=.ret (.string ⟨⟨M6 (V7 X.op) (a0V b)⟩⟩) ∧ ∀ i,i < c → s.h.get i=h.get i:=by
 obtain ⟨z,h19'⟩:=h19 (upd h c (.cells [(.int .i64 X.op, 0),(.int .i64 X.A, 0),(.int .i64 X.B, 0),(.int .u64 (Int.ofNat X.N), 0),(.int .i64 X.k, 0),(.int .i64 X.v, 0),(.int .i64 X.i, 0),(tv, 0),(lv, 0)] 0 false)) (fun b hb=>E8 (by omega))
 have Ht2:=Ht
 have Hl2:=Hl
 obtain ⟨ta,te,rfl,_⟩:=Ht
 obtain ⟨la,le,rfl,_⟩:=Hl
 simp only [H7,hA,hB,List.length_map] at h19'
 have nl:=a0e X.op
 have q1:=h49 b (by omega)
 have q2:=a6y b (by omega)
 simp (config:={ maxSteps:=10000000 }) (disch:=first | assumption | omega | (simp only [q9,C8,G7,F7,l8,D6,q8,F6,F3,Bool.not_false,Bool.not_true,Bool.and_true,Bool.true_and,Bool.and_self,r9,D5,Nat.zero_add,Nat.reduceAdd,j4,F8,Nat.reduceBEq,G9,H6,E5,j6,A8,l7,l6,l9,C9,j4,F4,G6,G5,F9,H8,H9,D7,z8,D9,w9,o8,o9,F5,D8,I7,IntKind.bits,E9,A9,o7] <;> omega) | assumption) only [a0Y,a4t,a4x,a4u,a4z,a4v,a4F,a4A,a4C,a4B,a4w,a3M,a3D,a3I,a3S,a3A,a3J,a3x,a3T,a3v,a3R,a3K,a3z,a3U,a3O,a3P,a3G,a3y,a3W,a3L,a3V,a3F,a3Q,a3w,a2D,a3C,a2C,a3H,H7,hA,hB,List.length_map,h19',h45,h46,decide_true,K4,J4,V9,G6,G5,F9,q1,Bool.not_true,bn,un,U6,a0d,V6,K6,I8,M0,J8,O5,O4,K4,J4,l_0,l_s,P5,L9,V.d9Z,Q7,U3,a0n,Q0,K8,M9,P8,K7,N9,I5,I9,K9,N8,O6,Q9,J6,J7,Nat.zero_add,Nat.add_zero]
 exact I6.done ⟨by simp only [M7],fun i hi=>by simp (config:={ maxSteps:=10000000 }) (disch:=first | assumption | omega | (simp only [q9,C8,G7,F7,l8,D6,q8,F6,F3,Bool.not_false,Bool.not_true,Bool.and_true,Bool.true_and,Bool.and_self,r9,D5,Nat.zero_add,Nat.reduceAdd,j4,F8,Nat.reduceBEq,G9,H6,E5,j6,A8,l7,l6,l9,C9,j4,F4,G6,G5,F9,H8,H9,D7,z8,D9,w9,o8,o9,F5,D8,I7,IntKind.bits,E9,A9,o7] <;> omega) | assumption) only [E8]⟩
theorem d0S (N:Nat) (call:j5) (X:Ins) (tv lv:Value) (a b:Nat) (hA:X.A=.ofNat a) (hB:X.B=.ofNat b) (ha:a < 4294967296) (hb:b < 4294967296) (h51:∀ m n:Nat,m < 18446744073709551616 → n < 18446744073709551616 → call 51 [.int .i64 (.ofNat m),.int .i64 (.ofNat n)]=M.pure (.ret (.string ⟨⟨a4L m n⟩⟩)))
 (c:Nat) (h:Trie VObj) (h19:∀ hh,(∀ b,b < c → hh.get b=h.get b) → ∃ z:List Nat → List Nat, ∀ r w,go (call 19 [H7 X tv lv]) ⟨c + 1,hh,r,w⟩=some (.ret (.bool true),⟨c + 1,hh,z r,w⟩))
 (h45:call 45 [.int .i64 X.op]=M.pure (.ret (.string ⟨⟨V7 X.op⟩⟩))) (h46:call 46 [.int .i64 X.op]=M.pure (.ret (.int .i64 (.ofNat 10))))
 (Ht:P6 c h tv (O9 X.types)) (Hl:P6 c h lv (O9 X.labels)) (r w:List Nat) :
 I6 (go (a0Y G8 N call (H7 X tv lv)) ⟨c,h,r,w⟩) fun x s=>x=.ret (.string ⟨⟨M6 (V7 X.op) (a4L a b)⟩⟩) ∧ ∀ i,i < c → s.h.get i=h.get i:=by
 obtain ⟨z,h19'⟩:=h19 (upd h c (.cells [(.int .i64 X.op, 0),(.int .i64 X.A, 0),(.int .i64 X.B, 0),(.int .u64 (Int.ofNat X.N), 0),(.int .i64 X.k, 0),(.int .i64 X.v, 0),(.int .i64 X.i, 0),(tv, 0),(lv, 0)] 0 false)) (fun b hb=>E8 (by omega))
 have Ht2:=Ht
 have Hl2:=Hl
 obtain ⟨ta,te,rfl,_⟩:=Ht
 obtain ⟨la,le,rfl,_⟩:=Hl
 simp only [H7,hA,hB,List.length_map] at h19'
 have nl:=a0e X.op
 have q1:=h51 a b (by omega) (by omega)
 have q2:=b4J a b (by omega) (by omega)
 simp (config:={ maxSteps:=10000000 }) (disch:=first | assumption | omega | (simp only [q9,C8,G7,F7,l8,D6,q8,F6,F3,Bool.not_false,Bool.not_true,Bool.and_true,Bool.true_and,Bool.and_self,r9,D5,Nat.zero_add,Nat.reduceAdd,j4,F8,Nat.reduceBEq,G9,H6,E5,j6,A8,l7,l6,l9,C9,j4,F4,G6,G5,F9,H8,H9,D7,z8,D9,w9,o8,o9,F5,D8,I7,IntKind.bits,E9,A9,o7] <;> omega) | assumption) only [a0Y,a4t,a4x,a4u,a4z,a4v,a4F,a4A,a4C,a4B,a4w,a3M,a3D,a3I,a3S,a3A,a3J,a3x,a3T,a3v,a3R,a3K,a3z,a3U,a3O,a3P,a3G,a3y,a3W,a3L,a3V,a3F,a3Q,a3w,a2D,a3C,a2C,a3H,H7,hA,hB,List.length_map,h19',h45,h46,decide_true,K4,J4,V9,G6,G5,F9,q1,Bool.not_true,bn,un,U6,a0d,V6,K6,I8,M0,J8,O5,O4,K4,J4,l_0,l_s,P5,L9,V.d9Z,Q7,U3,a0n,Q0,K8,M9,P8,K7,N9,I5,I9,K9,N8,O6,Q9,J6,J7,Nat.zero_add,Nat.add_zero]
 exact I6.done ⟨by simp only [M7],fun i hi=>by simp (config:={ maxSteps:=10000000 }) (disch:=first | assumption | omega | (simp only [q9,C8,G7,F7,l8,D6,q8,F6,F3,Bool.not_false,Bool.not_true,Bool.and_true,Bool.true_and,Bool.and_self,r9,D5,Nat.zero_add,Nat.reduceAdd,j4,F8,Nat.reduceBEq,G9,H6,E5,j6,A8,l7,l6,l9,C9,j4,F4,G6,G5,F9,H8,H9,D7,z8,D9,w9,o8,o9,F5,D8,I7,IntKind.bits,E9,A9,o7] <;> omega) | assumption) only [E8]⟩
end Go.Proofs.YtmomonnlmbljoaaGreatDoor
end
section
namespace Go.Proofs.YtmomonnlmbljoaaGreatDoor
open Go.V Go.RowKit Go.Shelf Go.Proofs
set_option maxRecDepth 1000000
set_option maxHeartbeats 2000000
set_option linter.unusedVariables false
attribute [local congr] a0b Z9 a0A a0B a0M a0T
variable {mL:Int}
theorem c9C (N:Nat) (call:j5) (X:Ins) (tv lv:Value) (a b:Nat) (hA:X.A=.ofNat a) (hB:X.B=.ofNat b) (ha:a < 4294967296) (hb:b < 4294967296) (h51:∀ m n:Nat,m < 18446744073709551616 → n < 18446744073709551616 → call 51 [.int .i64 (.ofNat m),.int .i64 (.ofNat n)]=M.pure (.ret (.string ⟨⟨a4L m n⟩⟩)))
 (c:Nat) (h:Trie VObj) (h19:∀ hh,(∀ b,b < c → hh.get b=h.get b) → ∃ z:List Nat → List Nat, ∀ r w,go (call 19 [H7 X tv lv]) ⟨c + 1,hh,r,w⟩=some (.ret (.bool true),⟨c + 1,hh,z r,w⟩))
 (h45:call 45 [.int .i64 X.op]=M.pure (.ret (.string ⟨⟨V7 X.op⟩⟩))) (h46:call 46 [.int .i64 X.op]=M.pure (.ret (.int .i64 (.ofNat 14))))
 (Ht:P6 c h tv (O9 X.types)) (Hl:P6 c h lv (O9 X.labels)) (r w:List Nat) :
 I6 (go (a0Y G8 N call (H7 X tv lv)) ⟨c,h,r,w⟩) fun x s=>x=.ret (.string ⟨⟨M6 (V7 X.op) (a4L a b)⟩⟩) ∧ ∀ i,i < c → s.h.get i=h.get i:=by
 obtain ⟨z,h19'⟩:=h19 (upd h c (.cells [(.int .i64 X.op, 0),(.int .i64 X.A, 0),(.int .i64 X.B, 0),(.int .u64 (Int.ofNat X.N), 0),(.int .i64 X.k, 0),(.int .i64 X.v, 0),(.int .i64 X.i, 0),(tv, 0),(lv, 0)] 0 false)) (fun b hb=>E8 (by omega))
 have Ht2:=Ht
 have Hl2:=Hl
 obtain ⟨ta,te,rfl,_⟩:=Ht
 obtain ⟨la,le,rfl,_⟩:=Hl
 simp only [H7,hA,hB,List.length_map] at h19'
 have nl:=a0e X.op
 have q1:=h51 a b (by omega) (by omega)
 have q2:=b4J a b (by omega) (by omega)
 simp (config:={ maxSteps:=10000000 }) (disch:=first | assumption | omega | (simp only [q9,C8,G7,F7,l8,D6,q8,F6,F3,Bool.not_false,Bool.not_true,Bool.and_true,Bool.true_and,Bool.and_self,r9,D5,Nat.zero_add,Nat.reduceAdd,j4,F8,Nat.reduceBEq,G9,H6,E5,j6,A8,l7,l6,l9,C9,j4,F4,G6,G5,F9,H8,H9,D7,z8,D9,w9,o8,o9,F5,D8,I7,IntKind.bits,E9,A9,o7] <;> omega) | assumption) only [a0Y,a4t,a4x,a4u,a4z,a4v,a4F,a4A,a4C,a4B,a4w,a3M,a3D,a3I,a3S,a3A,a3J,a3x,a3T,a3v,a3R,a3K,a3z,a3U,a3O,a3P,a3G,a3y,a3W,a3L,a3V,a3F,a3Q,a3w,a2D,a3C,a2C,a3H,H7,hA,hB,List.length_map,h19',h45,h46,decide_true,K4,J4,V9,G6,G5,F9,q1,Bool.not_true,bn,un,U6,a0d,V6,K6,I8,M0,J8,O5,O4,K4,J4,l_0,l_s,P5,L9,V.d9Z,Q7,U3,a0n,Q0,K8,M9,P8,K7,N9,I5,I9,K9,N8,O6,Q9,J6,J7,Nat.zero_add,Nat.add_zero]
 exact I6.done ⟨by simp only [M7],fun i hi=>by simp (config:={ maxSteps:=10000000 }) (disch:=first | assumption | omega | (simp only [q9,C8,G7,F7,l8,D6,q8,F6,F3,Bool.not_false,Bool.not_true,Bool.and_true,Bool.true_and,Bool.and_self,r9,D5,Nat.zero_add,Nat.reduceAdd,j4,F8,Nat.reduceBEq,G9,H6,E5,j6,A8,l7,l6,l9,C9,j4,F4,G6,G5,F9,H8,H9,D7,z8,D9,w9,o8,o9,F5,D8,I7,IntKind.bits,E9,A9,o7] <;> omega) | assumption) only [E8]⟩
theorem c8a (N:Nat) (call:j5) (X:Ins) (tv lv:Value) (a b:Nat) (hA:X.A=.ofNat a) (hB:X.B=.ofNat b) (ha:a < 4294967296) (hb:b < 4294967296) (h47:∀ m:Nat,m < 18446744073709551616 → call 47 [.int .i64 (.ofNat m)]=M.pure (.ret (.string ⟨⟨Z8 m⟩⟩))) (h49:∀ m:Nat,m < 18446744073709551616 → call 49 [.int .i64 (.ofNat m)]=M.pure (.ret (.string ⟨⟨a0V m⟩⟩)))
 (c:Nat) (h:Trie VObj) (h19:∀ hh,(∀ b,b < c → hh.get b=h.get b) → ∃ z:List Nat → List Nat, ∀ r w,go (call 19 [H7 X tv lv]) ⟨c + 1,hh,r,w⟩=some (.ret (.bool true),⟨c + 1,hh,z r,w⟩))
 (h45:call 45 [.int .i64 X.op]=M.pure (.ret (.string ⟨⟨V7 X.op⟩⟩))) (h46:call 46 [.int .i64 X.op]=M.pure (.ret (.int .i64 (.ofNat 11))))
 (Ht:P6 c h tv (O9 X.types)) (Hl:P6 c h lv (O9 X.labels)) (r w:List Nat) :
 I6 (go (a0Y G8 N call (H7 X tv lv)) ⟨c,h,r,w⟩) fun x s=>x=.ret (.string ⟨⟨M6 (V7 X.op) (M6 (a0V b) (Z8 a))⟩⟩) ∧ ∀ i,i < c → s.h.get i=h.get i:=by
 obtain ⟨z,h19'⟩:=h19 (upd h c (.cells [(.int .i64 X.op, 0),(.int .i64 X.A, 0),(.int .i64 X.B, 0),(.int .u64 (Int.ofNat X.N), 0),(.int .i64 X.k, 0),(.int .i64 X.v, 0),(.int .i64 X.i, 0),(tv, 0),(lv, 0)] 0 false)) (fun b hb=>E8 (by omega))
 have Ht2:=Ht
 have Hl2:=Hl
 obtain ⟨ta,te,rfl,_⟩:=Ht
 obtain ⟨la,le,rfl,_⟩:=Hl
 simp only [H7,hA,hB,List.length_map] at h19'
 have nl:=a0e X.op
 have q1:=h47 a (by omega)
 have q2:=a2T a (by omega)
 have q3:=h49 b (by omega)
 have q4:=a6y b (by omega)
 simp (config:={ maxSteps:=10000000 }) (disch:=first | assumption | omega | (simp only [q9,C8,G7,F7,l8,D6,q8,F6,F3,Bool.not_false,Bool.not_true,Bool.and_true,Bool.true_and,Bool.and_self,r9,D5,Nat.zero_add,Nat.reduceAdd,j4,F8,Nat.reduceBEq,G9,H6,E5,j6,A8,l7,l6,l9,C9,j4,F4,G6,G5,F9,H8,H9,D7,z8,D9,w9,o8,o9,F5,D8,I7,IntKind.bits,E9,A9,o7] <;> omega) | assumption) only [a0Y,a4t,a4x,a4u,a4z,a4v,a4F,a4A,a4C,a4B,a4w,a3M,a3D,a3I,a3S,a3A,a3J,a3x,a3T,a3v,a3R,a3K,a3z,a3U,a3O,a3P,a3G,a3y,a3W,a3L,a3V,a3F,a3Q,a3w,a2D,a3C,a2C,a3H,b4x,H7,hA,hB,List.length_map,h19',h45,h46,decide_true,K4,J4,V9,G6,G5,F9,q1,q3,Bool.not_true,bn,un,U6,a0d,V6,K6,I8,M0,J8,O5,O4,A9,o7,K4,J4,l_0,l_s,P5,L9,V.d9Z,Q8,Q7,U3,a0n,Q0,K8,M9,P8,K7,N9,I5,I9,K9,N8,O6,Q9,J6,J7,Nat.zero_add,Nat.add_zero,a0L,V8]
 exact I6.done ⟨by simp only [M7,List.append_assoc],fun i hi=>by simp (config:={ maxSteps:=10000000 }) (disch:=first | assumption | omega | (simp only [q9,C8,G7,F7,l8,D6,q8,F6,F3,Bool.not_false,Bool.not_true,Bool.and_true,Bool.true_and,Bool.and_self,r9,D5,Nat.zero_add,Nat.reduceAdd,j4,F8,Nat.reduceBEq,G9,H6,E5,j6,A8,l7,l6,l9,C9,j4,F4,G6,G5,F9,H8,H9,D7,z8,D9,w9,o8,o9,F5,D8,I7,IntKind.bits,E9,A9,o7] <;> omega) | assumption) only [E8]⟩
theorem c7Q (N:Nat) (call:j5) (X:Ins) (tv lv:Value) (a b:Nat) (hA:X.A=.ofNat a) (hB:X.B=.ofNat b) (ha:a < 4294967296) (hb:b < 4294967296) (h47:∀ m:Nat,m < 18446744073709551616 → call 47 [.int .i64 (.ofNat m)]=M.pure (.ret (.string ⟨⟨Z8 m⟩⟩))) (h49:∀ m:Nat,m < 18446744073709551616 → call 49 [.int .i64 (.ofNat m)]=M.pure (.ret (.string ⟨⟨a0V m⟩⟩)))
 (c:Nat) (h:Trie VObj) (h19:∀ hh,(∀ b,b < c → hh.get b=h.get b) → ∃ z:List Nat → List Nat, ∀ r w,go (call 19 [H7 X tv lv]) ⟨c + 1,hh,r,w⟩=some (.ret (.bool true),⟨c + 1,hh,z r,w⟩))
 (h45:call 45 [.int .i64 X.op]=M.pure (.ret (.string ⟨⟨V7 X.op⟩⟩))) (h46:call 46 [.int .i64 X.op]=M.pure (.ret (.int .i64 (.ofNat 15))))
 (Ht:P6 c h tv (O9 X.types)) (Hl:P6 c h lv (O9 X.labels)) (r w:List Nat) :
 I6 (go (a0Y G8 N call (H7 X tv lv)) ⟨c,h,r,w⟩) fun x s=>x=.ret (.string ⟨⟨M6 (V7 X.op) (M6 (a0V b) (Z8 a))⟩⟩) ∧ ∀ i,i < c → s.h.get i=h.get i:=by
 obtain ⟨z,h19'⟩:=h19 (upd h c (.cells [(.int .i64 X.op, 0),(.int .i64 X.A, 0),(.int .i64 X.B, 0),(.int .u64 (Int.ofNat X.N), 0),(.int .i64 X.k, 0),(.int .i64 X.v, 0),(.int .i64 X.i, 0),(tv, 0),(lv, 0)] 0 false)) (fun b hb=>E8 (by omega))
 have Ht2:=Ht
 have Hl2:=Hl
 obtain ⟨ta,te,rfl,_⟩:=Ht
 obtain ⟨la,le,rfl,_⟩:=Hl
 simp only [H7,hA,hB,List.length_map] at h19'
 have nl:=a0e X.op
 have q1:=h47 a (by omega)
 have q2:=a2T a (by omega)
 have q3:=h49 b (by omega)
 have q4:=a6y b (by omega)
 simp (config:={ maxSteps:=10000000 }) (disch:=first | assumption | omega | (simp only [q9,C8,G7,F7,l8,D6,q8,F6,F3,Bool.not_false,Bool.not_true,Bool.and_true,Bool.true_and,Bool.and_self,r9,D5,Nat.zero_add,Nat.reduceAdd,j4,F8,Nat.reduceBEq,G9,H6,E5,j6,A8,l7,l6,l9,C9,j4,F4,G6,G5,F9,H8,H9,D7,z8,D9,w9,o8,o9,F5,D8,I7,IntKind.bits,E9,A9,o7] <;> omega) | assumption) only [a0Y,a4t,a4x,a4u,a4z,a4v,a4F,a4A,a4C,a4B,a4w,a3M,a3D,a3I,a3S,a3A,a3J,a3x,a3T,a3v,a3R,a3K,a3z,a3U,a3O,a3P,a3G,a3y,a3W,a3L,a3V,a3F,a3Q,a3w,a2D,a3C,a2C,a3H,b4x,H7,hA,hB,List.length_map,h19',h45,h46,decide_true,K4,J4,V9,G6,G5,F9,q1,q3,Bool.not_true,bn,un,U6,a0d,V6,K6,I8,M0,J8,O5,O4,A9,o7,K4,J4,l_0,l_s,P5,L9,V.d9Z,Q8,Q7,U3,a0n,Q0,K8,M9,P8,K7,N9,I5,I9,K9,N8,O6,Q9,J6,J7,Nat.zero_add,Nat.add_zero,a0L,V8]
 exact I6.done ⟨by simp only [M7,List.append_assoc],fun i hi=>by simp (config:={ maxSteps:=10000000 }) (disch:=first | assumption | omega | (simp only [q9,C8,G7,F7,l8,D6,q8,F6,F3,Bool.not_false,Bool.not_true,Bool.and_true,Bool.true_and,Bool.and_self,r9,D5,Nat.zero_add,Nat.reduceAdd,j4,F8,Nat.reduceBEq,G9,H6,E5,j6,A8,l7,l6,l9,C9,j4,F4,G6,G5,F9,H8,H9,D7,z8,D9,w9,o8,o9,F5,D8,I7,IntKind.bits,E9,A9,o7] <;> omega) | assumption) only [E8]⟩
theorem d1I (N:Nat) (call:j5) (X:Ins) (tv lv:Value) (a b:Nat) (hA:X.A=.ofNat a) (hB:X.B=.ofNat b) (ha:a < 4294967296) (hb:b < 4294967296) (h47:∀ m:Nat,m < 18446744073709551616 → call 47 [.int .i64 (.ofNat m)]=M.pure (.ret (.string ⟨⟨Z8 m⟩⟩))) (h49:∀ m:Nat,m < 18446744073709551616 → call 49 [.int .i64 (.ofNat m)]=M.pure (.ret (.string ⟨⟨a0V m⟩⟩)))
 (c:Nat) (h:Trie VObj) (h19:∀ hh,(∀ b,b < c → hh.get b=h.get b) → ∃ z:List Nat → List Nat, ∀ r w,go (call 19 [H7 X tv lv]) ⟨c + 1,hh,r,w⟩=some (.ret (.bool true),⟨c + 1,hh,z r,w⟩))
 (h45:call 45 [.int .i64 X.op]=M.pure (.ret (.string ⟨⟨V7 X.op⟩⟩))) (h46:call 46 [.int .i64 X.op]=M.pure (.ret (.int .i64 (.ofNat 5))))
 (Ht:P6 c h tv (O9 X.types)) (Hl:P6 c h lv (O9 X.labels)) (r w:List Nat) :
 I6 (go (a0Y G8 N call (H7 X tv lv)) ⟨c,h,r,w⟩) fun x s=>x=.ret (.string ⟨⟨M6 (V7 X.op) (M6 (M6 (a0V b) [32, 40, 116, 121, 112, 101]) (M6 (Z8 a) [41]))⟩⟩) ∧ ∀ i,i < c → s.h.get i=h.get i:=by
 obtain ⟨z,h19'⟩:=h19 (upd h c (.cells [(.int .i64 X.op, 0),(.int .i64 X.A, 0),(.int .i64 X.B, 0),(.int .u64 (Int.ofNat X.N), 0),(.int .i64 X.k, 0),(.int .i64 X.v, 0),(.int .i64 X.i, 0),(tv, 0),(lv, 0)] 0 false)) (fun b hb=>E8 (by omega))
 have Ht2:=Ht
 have Hl2:=Hl
 obtain ⟨ta,te,rfl,_⟩:=Ht
 obtain ⟨la,le,rfl,_⟩:=Hl
 simp only [H7,hA,hB,List.length_map] at h19'
 have nl:=a0e X.op
 have q1:=h47 a (by omega)
 have q2:=a2T a (by omega)
 have q3:=h49 b (by omega)
 have q4:=a6y b (by omega)
 simp (config:={ maxSteps:=10000000 }) (disch:=first | assumption | omega | (simp only [q9,C8,G7,F7,l8,D6,q8,F6,F3,Bool.not_false,Bool.not_true,Bool.and_true,Bool.true_and,Bool.and_self,r9,D5,Nat.zero_add,Nat.reduceAdd,j4,F8,Nat.reduceBEq,G9,H6,E5,j6,A8,l7,l6,l9,C9,j4,F4,G6,G5,F9,H8,H9,D7,z8,D9,w9,o8,o9,F5,D8,I7,IntKind.bits,E9,A9,o7] <;> omega) | assumption) only [a0Y,a4t,a4x,a4u,a4z,a4v,a4F,a4A,a4C,a4B,a4w,a3M,a3D,a3I,a3S,a3A,a3J,a3x,a3T,a3v,a3R,a3K,a3z,a3U,a3O,a3P,a3G,a3y,a3W,a3L,a3V,a3F,a3Q,a3w,a2D,a3C,c1q,a2C,a3H,H7,hA,hB,List.length_map,h19',h45,h46,decide_true,K4,J4,V9,G6,G5,F9,q1,q3,Bool.not_true,bn,un,U6,a0d,V6,K6,I8,M0,J8,O5,O4,A9,o7,K4,J4,l_0,l_s,P5,L9,V.d9Z,Q8,Q7,U3,a0n,Q0,K8,M9,P8,K7,N9,I5,I9,K9,N8,O6,Q9,J6,J7,Nat.zero_add,Nat.add_zero,a0L,V8]
 exact I6.done ⟨by simp only [M7,List.append_assoc,List.cons_append,List.nil_append],fun i hi=>by simp (config:={ maxSteps:=10000000 }) (disch:=first | assumption | omega | (simp only [q9,C8,G7,F7,l8,D6,q8,F6,F3,Bool.not_false,Bool.not_true,Bool.and_true,Bool.true_and,Bool.and_self,r9,D5,Nat.zero_add,Nat.reduceAdd,j4,F8,Nat.reduceBEq,G9,H6,E5,j6,A8,l7,l6,l9,C9,j4,F4,G6,G5,F9,H8,H9,D7,z8,D9,w9,o8,o9,F5,D8,I7,IntKind.bits,E9,A9,o7] <;> omega) | assumption) only [E8]⟩
theorem d0U (N:Nat) (call:j5) (X:Ins) (tv lv:Value) (a b:Nat) (hA:X.A=.ofNat a) (hB:X.B=.ofNat b) (ha:a < 4294967296) (hb:b < 4294967296) (hN:X.N < 4294967296) (h53:call 53 [.int .u64 (.ofNat X.N),.int .i64 (.ofNat 32)]=M.pure (.ret (.string ⟨⟨Lib.itoa (sgn 32 X.N)⟩⟩)))
 (c:Nat) (h:Trie VObj) (h19:∀ hh,(∀ b,b < c → hh.get b=h.get b) → ∃ z:List Nat → List Nat, ∀ r w,go (call 19 [H7 X tv lv]) ⟨c + 1,hh,r,w⟩=some (.ret (.bool true),⟨c + 1,hh,z r,w⟩))
 (h45:call 45 [.int .i64 X.op]=M.pure (.ret (.string ⟨⟨V7 X.op⟩⟩))) (h46:call 46 [.int .i64 X.op]=M.pure (.ret (.int .i64 (.ofNat 18))))
 (Ht:P6 c h tv (O9 X.types)) (Hl:P6 c h lv (O9 X.labels)) (r w:List Nat) :
 I6 (go (a0Y G8 N call (H7 X tv lv)) ⟨c,h,r,w⟩) fun x s=>x=.ret (.string ⟨⟨M6 (V7 X.op) (32 :: Lib.itoa (sgn 32 X.N))⟩⟩) ∧ ∀ i,i < c → s.h.get i=h.get i:=by
 obtain ⟨z,h19'⟩:=h19 (upd h c (.cells [(.int .i64 X.op, 0),(.int .i64 X.A, 0),(.int .i64 X.B, 0),(.int .u64 (Int.ofNat X.N), 0),(.int .i64 X.k, 0),(.int .i64 X.v, 0),(.int .i64 X.i, 0),(tv, 0),(lv, 0)] 0 false)) (fun b hb=>E8 (by omega))
 have Ht2:=Ht
 have Hl2:=Hl
 obtain ⟨ta,te,rfl,_⟩:=Ht
 obtain ⟨la,le,rfl,_⟩:=Hl
 simp only [H7,hA,hB,List.length_map] at h19'
 have nl:=a0e X.op
 have q2:=a7o (sgn 32 X.N) (b2v _ hN) (by have:=b2x _ hN; omega)
 simp (config:={ maxSteps:=10000000 }) (disch:=first | assumption | omega | (simp only [q9,C8,G7,F7,l8,D6,q8,F6,F3,Bool.not_false,Bool.not_true,Bool.and_true,Bool.true_and,Bool.and_self,r9,D5,Nat.zero_add,Nat.reduceAdd,j4,F8,Nat.reduceBEq,G9,H6,E5,j6,A8,l7,l6,l9,C9,j4,F4,G6,G5,F9,H8,H9,D7,z8,D9,w9,o8,o9,F5,D8,I7,IntKind.bits,E9,A9,o7] <;> omega) | assumption) only [a0Y,a4t,a4x,a4u,a4z,a4v,a4F,a4A,a4C,a4B,a4w,a3M,a3D,a3I,a3S,a3A,a3J,a3x,a3T,a3v,a3R,a3K,a3z,a3U,a3O,a3P,a3G,a3y,a3W,a3L,a3V,a3F,a3Q,a3w,a2D,a3C,a2C,a3H,H7,hA,hB,List.length_map,h19',h45,h46,decide_true,K4,J4,V9,G6,G5,F9,h53,Bool.not_true,bn,un,U6,a0d,V6,K6,I8,M0,J8,O5,O4,K4,J4,l_0,l_s,P5,L9,V.d9Z,Q7,U3,a0n,Q0,K8,M9,P8,K7,N9,I5,I9,K9,N8,O6,Q9,J6,J7,Nat.zero_add,Nat.add_zero]
 exact I6.done ⟨by simp only [M7,List.append_assoc,List.cons_append,List.nil_append],fun i hi=>by simp (config:={ maxSteps:=10000000 }) (disch:=first | assumption | omega | (simp only [q9,C8,G7,F7,l8,D6,q8,F6,F3,Bool.not_false,Bool.not_true,Bool.and_true,Bool.true_and,Bool.and_self,r9,D5,Nat.zero_add,Nat.reduceAdd,j4,F8,Nat.reduceBEq,G9,H6,E5,j6,A8,l7,l6,l9,C9,j4,F4,G6,G5,F9,H8,H9,D7,z8,D9,w9,o8,o9,F5,D8,I7,IntKind.bits,E9,A9,o7] <;> omega) | assumption) only [E8]⟩
end Go.Proofs.YtmomonnlmbljoaaGreatDoor
end
