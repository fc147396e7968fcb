import Derived.Test.YtmomonnlmbljoaaGreatDoorPay
section
namespace Go.Proofs.YtmomonnlmbljoaaGreatDoor
open Go.V Go.RowKit Go.Shelf Go.Proofs
set_option maxRecDepth 1000000
attribute [local congr] U8 U7 Y8 Z0 a0i
variable {mL:Int}
noncomputable def a0j:List (Nat×List UInt8×Nat):=[(0, [117, 110, 114, 101, 97, 99, 104, 97, 98, 108, 101], 0),
 (1, [110, 111, 112], 0),
 (2, [98, 108, 111, 99, 107], 1),
 (3, [108, 111, 111, 112], 1),
 (4, [105, 102], 1),
 (5, [101, 108, 115, 101], 0),
 (11, [101, 110, 100], 0),
 (12, [98, 114], 2),
 (13, [98, 114, 95, 105, 102], 2),
 (14, [98, 114, 95, 116, 97, 98, 108, 101], 3),
 (15, [114, 101, 116, 117, 114, 110], 0),
 (16, [99, 97, 108, 108], 4),
 (17, [99, 97, 108, 108, 95, 105, 110, 100, 105, 114, 101, 99, 116], 5),
 (26, [100, 114, 111, 112], 0),
 (27, [115, 101, 108, 101, 99, 116], 0),
 (28, [115, 101, 108, 101, 99, 116], 6),
 (32, [108, 111, 99, 97, 108, 46, 103, 101, 116], 7),
 (33, [108, 111, 99, 97, 108, 46, 115, 101, 116], 7),
 (34, [108, 111, 99, 97, 108, 46, 116, 101, 101], 7),
 (35, [103, 108, 111, 98, 97, 108, 46, 103, 101, 116], 8),
 (36, [103, 108, 111, 98, 97, 108, 46, 115, 101, 116], 8),
 (37, [116, 97, 98, 108, 101, 46, 103, 101, 116], 9),
 (38, [116, 97, 98, 108, 101, 46, 115, 101, 116], 9),
 (40, [105, 51, 50, 46, 108, 111, 97, 100], 17),
 (41, [105, 54, 52, 46, 108, 111, 97, 100], 17),
 (44, [105, 51, 50, 46, 108, 111, 97, 100, 56, 95, 115], 17),
 (45, [105, 51, 50, 46, 108, 111, 97, 100, 56, 95, 117], 17),
 (46, [105, 51, 50, 46, 108, 111, 97, 100, 49, 54, 95, 115], 17),
 (47, [105, 51, 50, 46, 108, 111, 97, 100, 49, 54, 95, 117], 17),
 (48, [105, 54, 52, 46, 108, 111, 97, 100, 56, 95, 115], 17),
 (49, [105, 54, 52, 46, 108, 111, 97, 100, 56, 95, 117], 17),
 (50, [105, 54, 52, 46, 108, 111, 97, 100, 49, 54, 95, 115], 17),
 (51, [105, 54, 52, 46, 108, 111, 97, 100, 49, 54, 95, 117], 17),
 (52, [105, 54, 52, 46, 108, 111, 97, 100, 51, 50, 95, 115], 17),
 (53, [105, 54, 52, 46, 108, 111, 97, 100, 51, 50, 95, 117], 17),
 (54, [105, 51, 50, 46, 115, 116, 111, 114, 101], 17),
 (55, [105, 54, 52, 46, 115, 116, 111, 114, 101], 17),
 (58, [105, 51, 50, 46, 115, 116, 111, 114, 101, 56], 17),
 (59, [105, 51, 50, 46, 115, 116, 111, 114, 101, 49, 54], 17),
 (60, [105, 54, 52, 46, 115, 116, 111, 114, 101, 56], 17),
 (61, [105, 54, 52, 46, 115, 116, 111, 114, 101, 49, 54], 17),
 (62, [105, 54, 52, 46, 115, 116, 111, 114, 101, 51, 50], 17),
 (63, [109, 101, 109, 111, 114, 121, 46, 115, 105, 122, 101], 13),
 (64, [109, 101, 109, 111, 114, 121, 46, 103, 114, 111, 119], 13),
 (65, [105, 51, 50, 46, 99, 111, 110, 115, 116], 18),
 (66, [105, 54, 52, 46, 99, 111, 110, 115, 116], 19),
 (69, [105, 51, 50, 46, 101, 113, 122], 0),
 (70, [105, 51, 50, 46, 101, 113], 0),
 (71, [105, 51, 50, 46, 110, 101], 0),
 (72, [105, 51, 50, 46, 108, 116, 95, 115], 0),
 (73, [105, 51, 50, 46, 108, 116, 95, 117], 0),
 (74, [105, 51, 50, 46, 103, 116, 95, 115], 0),
 (75, [105, 51, 50, 46, 103, 116, 95, 117], 0),
 (76, [105, 51, 50, 46, 108, 101, 95, 115], 0),
 (77, [105, 51, 50, 46, 108, 101, 95, 117], 0),
 (78, [105, 51, 50, 46, 103, 101, 95, 115], 0),
 (79, [105, 51, 50, 46, 103, 101, 95, 117], 0),
 (80, [105, 54, 52, 46, 101, 113, 122], 0),
 (81, [105, 54, 52, 46, 101, 113], 0),
 (82, [105, 54, 52, 46, 110, 101], 0),
 (83, [105, 54, 52, 46, 108, 116, 95, 115], 0),
 (84, [105, 54, 52, 46, 108, 116, 95, 117], 0),
 (85, [105, 54, 52, 46, 103, 116, 95, 115], 0),
 (86, [105, 54, 52, 46, 103, 116, 95, 117], 0),
 (87, [105, 54, 52, 46, 108, 101, 95, 115], 0),
 (88, [105, 54, 52, 46, 108, 101, 95, 117], 0),
 (89, [105, 54, 52, 46, 103, 101, 95, 115], 0),
 (90, [105, 54, 52, 46, 103, 101, 95, 117], 0),
 (103, [105, 51, 50, 46, 99, 108, 122], 0),
 (104, [105, 51, 50, 46, 99, 116, 122], 0),
 (105, [105, 51, 50, 46, 112, 111, 112, 99, 110, 116], 0),
 (106, [105, 51, 50, 46, 97, 100, 100], 0),
 (107, [105, 51, 50, 46, 115, 117, 98], 0),
 (108, [105, 51, 50, 46, 109, 117, 108], 0),
 (109, [105, 51, 50, 46, 100, 105, 118, 95, 115], 0),
 (110, [105, 51, 50, 46, 100, 105, 118, 95, 117], 0),
 (111, [105, 51, 50, 46, 114, 101, 109, 95, 115], 0),
 (112, [105, 51, 50, 46, 114, 101, 109, 95, 117], 0),
 (113, [105, 51, 50, 46, 97, 110, 100], 0),
 (114, [105, 51, 50, 46, 111, 114], 0),
 (115, [105, 51, 50, 46, 120, 111, 114], 0),
 (116, [105, 51, 50, 46, 115, 104, 108], 0),
 (117, [105, 51, 50, 46, 115, 104, 114, 95, 115], 0),
 (118, [105, 51, 50, 46, 115, 104, 114, 95, 117], 0),
 (119, [105, 51, 50, 46, 114, 111, 116, 108], 0),
 (120, [105, 51, 50, 46, 114, 111, 116, 114], 0),
 (121, [105, 54, 52, 46, 99, 108, 122], 0),
 (122, [105, 54, 52, 46, 99, 116, 122], 0),
 (123, [105, 54, 52, 46, 112, 111, 112, 99, 110, 116], 0),
 (124, [105, 54, 52, 46, 97, 100, 100], 0),
 (125, [105, 54, 52, 46, 115, 117, 98], 0),
 (126, [105, 54, 52, 46, 109, 117, 108], 0),
 (127, [105, 54, 52, 46, 100, 105, 118, 95, 115], 0),
 (128, [105, 54, 52, 46, 100, 105, 118, 95, 117], 0),
 (129, [105, 54, 52, 46, 114, 101, 109, 95, 115], 0),
 (130, [105, 54, 52, 46, 114, 101, 109, 95, 117], 0),
 (131, [105, 54, 52, 46, 97, 110, 100], 0),
 (132, [105, 54, 52, 46, 111, 114], 0),
 (133, [105, 54, 52, 46, 120, 111, 114], 0),
 (134, [105, 54, 52, 46, 115, 104, 108], 0),
 (135, [105, 54, 52, 46, 115, 104, 114, 95, 115], 0),
 (136, [105, 54, 52, 46, 115, 104, 114, 95, 117], 0),
 (137, [105, 54, 52, 46, 114, 111, 116, 108], 0),
 (138, [105, 54, 52, 46, 114, 111, 116, 114], 0),
 (167, [105, 51, 50, 46, 119, 114, 97, 112, 95, 105, 54, 52], 0),
 (172, [105, 54, 52, 46, 101, 120, 116, 101, 110, 100, 95, 105, 51, 50, 95, 115], 0),
 (173, [105, 54, 52, 46, 101, 120, 116, 101, 110, 100, 95, 105, 51, 50, 95, 117], 0),
 (192, [105, 51, 50, 46, 101, 120, 116, 101, 110, 100, 56, 95, 115], 0),
 (193, [105, 51, 50, 46, 101, 120, 116, 101, 110, 100, 49, 54, 95, 115], 0),
 (194, [105, 54, 52, 46, 101, 120, 116, 101, 110, 100, 56, 95, 115], 0),
 (195, [105, 54, 52, 46, 101, 120, 116, 101, 110, 100, 49, 54, 95, 115], 0),
 (196, [105, 54, 52, 46, 101, 120, 116, 101, 110, 100, 51, 50, 95, 115], 0),
 (208, [114, 101, 102, 46, 110, 117, 108, 108], 20),
 (209, [114, 101, 102, 46, 105, 115, 95, 110, 117, 108, 108], 0),
 (210, [114, 101, 102, 46, 102, 117, 110, 99], 4),
 (64520, [109, 101, 109, 111, 114, 121, 46, 105, 110, 105, 116], 15),
 (64521, [100, 97, 116, 97, 46, 100, 114, 111, 112], 16),
 (64522, [109, 101, 109, 111, 114, 121, 46, 99, 111, 112, 121], 14),
 (64523, [109, 101, 109, 111, 114, 121, 46, 102, 105, 108, 108], 13),
 (64524, [116, 97, 98, 108, 101, 46, 105, 110, 105, 116], 11),
 (64525, [101, 108, 101, 109, 46, 100, 114, 111, 112], 12),
 (64526, [116, 97, 98, 108, 101, 46, 99, 111, 112, 121], 10),
 (64527, [116, 97, 98, 108, 101, 46, 103, 114, 111, 119], 9),
 (64528, [116, 97, 98, 108, 101, 46, 115, 105, 122, 101], 9),
 (64529, [116, 97, 98, 108, 101, 46, 102, 105, 108, 108], 9)]
abbrev a4V:=Nat×List UInt8×Nat
noncomputable def b0N (x:a4V):List Value:=[.int .i64 (.ofNat x.1),.string ⟨⟨x.2.1⟩⟩,.int .i64 (.ofNat x.2.2)]
noncomputable def a3Q (l:List a4V):List Value:=List.rec (motive:=fun _=>List Value) [] (fun x _ ih=>.int .i64 (.ofNat x.1)::.string ⟨⟨x.2.1⟩⟩::.int .i64 (.ofNat x.2.2)::ih) l
noncomputable def c5F (r:Option (CR×S)):Option (Nat×Nat×List Value×Bool):=match r with
 | some x=>match x.1 with
   | .ret v=>match v with
     | .slice a n e=>match a with
       | some a=>match a.spot with
         | some g=>match Nat.beq a.off 0 with
           | true=>match x.2.h.get a.block with
             | some (.cells cs _ ro)=>some (n,e,a1R (·.1) cs,a0o (fun x=>plain x.1 && Nat.ble x.2 g) cs && !ro)
             | _=>none
           | false=>none
         | none=>none
       | none=>none
     | _=>none
   | _=>none
 | none=>none
theorem c5M {r:Option (CR×S)} {n e:Nat} {vs:List Value} (h:c5F r=some (n,e,vs,true)) :
 ∃ b2 g2 s2 cs cur,r=some (.ret (.slice (some ⟨b2, 0,some g2⟩) n e),s2)∧s2.h.get b2=some (.cells cs cur false)∧a1R (·.1) cs=vs∧a0o (fun x=>plain x.1 && Nat.ble x.2 g2) cs=true:=by
 unfold c5F at h
 split at h
 · rename_i x
   split at h
   · rename_i v hv
     split at h
     · rename_i a n' e'
       split at h
       · rename_i a
         split at h
         · rename_i g hg
           split at h
           · rename_i ho
             split at h
             · rename_i cs cur ro hc
               have h':=Option.some.inj h
               simp only [Prod.mk.injEq,Bool.and_eq_true] at h'
               obtain ⟨rfl,rfl,rfl,h4,h5⟩:=h'
               obtain ⟨b,off,sp⟩:=a
               obtain rfl:off=0:=Nat.eq_of_beq_eq_true ho
               obtain rfl:sp=some g:=hg
               obtain rfl:ro=false:=by simpa using h5
               obtain ⟨x1,x2⟩:=x
               obtain rfl:x1=.ret (.slice (some ⟨b, 0,some g⟩) n' e'):=hv
               exact ⟨b,g,x2,cs,cur,rfl,hc,rfl,h4⟩
             · cases h
           · cases h
         · cases h
       · cases h
     · cases h
   · cases h
 · cases h
theorem c5J (mL:Int):c5F (K4 b0Z 400 127 [] (Go.V.a4P (V6 mL)))=some (125, 3,a3Q a0j,true):=by kernel_rfl
theorem c5y:Y4 Tryz.prog R4 (V6 mL) 127 (b0k (a3Q a0j) 125 3):=by
 obtain ⟨b2,g2,s2,cs,cur,h1,h2,h3,h4⟩:=c5M (c5J mL)
 rw [← h3]
 exact b8D a2m a0w a8U a5U b0i c2I Tryz.func127 (by kernel_rfl) rfl h1 h2 h4
theorem a3m (k:IntKind) (n:Nat) (h:n<G7 k):a0H k (.ofNat n)=.ofNat n:=by
 unfold a0H
 have:Nat.blt n (G7 k)=true:=by simpa [Nat.blt_eq] using h
 simp only [this]
theorem a4G (i:Nat) (h:i<4294967296):a0H .i64 (Int.ofNat i+Int.ofNat 1)=Int.ofNat (i+1):=a3m .i64 (i+1) (by show i+1<9223372036854775808; omega)
theorem a2t (i n:Nat):decide (Int.ofNat i<Int.ofNat n)=Nat.blt i n:=by
 cases h:Nat.blt i n with
 | true=>have:i<n:=by simpa [Nat.blt_eq] using h
         simp only [decide_eq_true_eq,Int.ofNat_eq_natCast]; omega
 | false=>have:¬ i<n:=fun q=>by rw [H9 q] at h; cases h
          simp only [decide_eq_false_iff_not,Int.ofNat_eq_natCast]; omega
noncomputable def a0z (n:Int):List a4V→Option a4V
 | []=>none
 | r::l=>bcase (decide (Int.ofNat r.1=n)) (some r) (a0z n l)
noncomputable def b6y:List Value:=[.int .i64 (.ofNat 0),.string ⟨⟨[]⟩⟩,.int .i64 (.ofNat 0)]
noncomputable def a7l (o:Option a4V):Value:=match o with
 | some r=>.tuple ⟨[.agg ⟨b0N r⟩,.bool true]⟩
 | none=>.tuple ⟨[.agg ⟨b6y⟩,.bool false]⟩
theorem c3z (rows:List a4V):∀ (i:Nat),a2I (a1R (fun v=>(v, 0)) (a3Q rows)) (i * 3)=a1R (fun v=>(v, 0)) (a3Q (rows.drop i)):=by
 induction rows with
 | nil=>intro i; rw [a5I]; simp [a3Q,a1R]
 | cons r l ih=>
   intro i
   cases i with
   | zero=>rw [Nat.zero_mul,O6]; rfl
   | succ i=>rw [show (i+1) * 3=i * 3+1+1+1 by omega]; exact ih i
theorem c6m (N:Nat) (call:o8) (b0 b1 len:Nat) (n:Int) (rows:List a4V) (hlen:len=rows.length) (hsm:rows.length<4294967296) (x0 x1 x2:Value) (c:Nat) (h:Trie VObj) (hb0:b0<c) (hb1:b1<c)
 (h0:h.get b0=some (.cells [(x0, 0),(x1, 0),(x2, 0)] 0 false)) (h1:h.get b1=some (.cells (a1R (fun v=>(v, 0)) (a3Q rows)) 0 false)) :
 ∀ (l:List a4V) (i k:Nat) (g0 g1 g2 g3 g4 g5 g6 g7 g8 g9 g10 g11 g12 g13 g14 g16 g17:Value) (r w:List Nat),rows.drop i=l→l.length<k →
 H6 (go (a2S (b6s H8 N call (.slice (some ⟨b1, 0,some 0⟩) len 3) (.int .i64 n) (.pointer (some ⟨b0, 0,some 0⟩))) k [g0,g1,g2,g3,g4,g5,g6,g7,g8,g9,g10,g11,g12,g13,g14,.bool false,g16,g17,.int .i64 (.ofNat i)]) ⟨c,h,r,w⟩)
  fun x s=>s.c=c∧match a0z n l with
   | some q=>x.1=.ret∧j4 x.2 15=.bool true∧s.h=upd h b0 (.cells [(.int .i64 (.ofNat q.1), 0),(.string ⟨⟨q.2.1⟩⟩, 0),(.int .i64 (.ofNat q.2.2), 0)] 0 false)
   | none=>x.1=.exit 0∧s.h=h:=by
 intro l
 induction l with
 | nil=>
   intro i k g0 g1 g2 g3 g4 g5 g6 g7 g8 g9 g10 g11 g12 g13 g14 g16 g17 r w hd hk
   obtain ⟨k,rfl⟩:∃ m,k=m+1:=⟨k - 1,by simp at hk; omega⟩
   have hi:Nat.blt i len=false:=by
    have:rows.length≤i:=by simpa [List.drop_eq_nil_iff] using hd
    cases q:Nat.blt i len with
    | false=>rfl
    | true=>have:i<len:=by simpa [Nat.blt_eq] using q
            omega
   simp (config:={ maxSteps:=10000000 }) (disch:=first | assumption | omega | (simp only [l9,w9,F3,j6,A8,E8,D8,I5,G9,I9,I8,H7,o9,D5,G8,Nat.reduceAdd,D7,E9,Nat.reduceBEq,G5,F9,d9,j5,l6,z8,D9,F7,F5,F4,G6,C8,q9,A9,q8,l8,l7,E5,C9,G7,IntKind.bits,D6,r9,o7] <;> omega) | assumption) only [a1d,c2k,c1n,c2a,c2i,b6s,a2t,hi,bn,U0,I4,K3,J2,X4,Y3,M6,a2N,V.e1g,a0t,a0G,a5G]
   exact H6.done ⟨rfl,rfl,rfl⟩
 | cons q l ih=>
   intro i k g0 g1 g2 g3 g4 g5 g6 g7 g8 g9 g10 g11 g12 g13 g14 g16 g17 r w hd hk
   obtain ⟨k,rfl⟩:∃ m,k=m+1:=⟨k - 1,by simp at hk; omega⟩
   have hil:i<len:=by
    have:=congrArg List.length hd; simp at this; omega
   have hi:Nat.blt i len=true:=H9 hil
   have hd':rows.drop (i+1)=l:=by
    have:=congrArg List.tail hd; simpa using this
   have hdr:a2I (a1R (fun v=>(v, 0)) (a3Q rows)) (i * 3)=(.int .i64 (.ofNat q.1), 0)::(.string ⟨⟨q.2.1⟩⟩, 0)::(.int .i64 (.ofNat q.2.2), 0)::a1R (fun v=>(v, 0)) (a3Q l):=by rw [c3z,hd]; rfl
   have hinc:=a4G i (by omega)
   simp (config:={ maxSteps:=10000000 }) (disch:=first | assumption | omega | (simp only [l9,w9,F3,j6,A8,E8,D8,I5,G9,I9,I8,H7,o9,D5,G8,Nat.reduceAdd,D7,E9,Nat.reduceBEq,G5,F9,d9,j5,l6,z8,D9,F7,F5,F4,G6,C8,q9,A9,q8,l8,l7,E5,C9,G7,IntKind.bits,D6,r9,o7] <;> omega) | assumption) only [a1d,c2k,c1n,c2a,c2i,b6s,a2t,hi,hdr,h1,bn,U0,J6,I4,K3,a2W,J3,X4,Y3,M6,V.e1g,P8,a0t,a0G,Q7,a5G,a6S,z8,M8,Q8,Y5,K8,M5,H9,J5,J7,G8,Nat.add_zero]
   rw [b9D]
   refine H6.cases (fun hb=>?_) (fun hb=>?_)
   · simp (config:={ maxSteps:=10000000 }) (disch:=first | assumption | omega | (simp only [l9,w9,F3,j6,A8,E8,D8,I5,G9,I9,I8,H7,o9,D5,G8,Nat.reduceAdd,D7,E9,Nat.reduceBEq,G5,F9,d9,j5,l6,z8,D9,F7,F5,F4,G6,C8,q9,A9,q8,l8,l7,E5,C9,G7,IntKind.bits,D6,r9,o7] <;> omega) | assumption) only [h0,I4,K3,a5Y,M5,V8,U5,Q0,R3]
     refine H6.done ⟨rfl, ?_⟩
     have e:a0z n (q::l)=some q:=by unfold a0z; rw [hb]; rfl
     rw [e]
     exact ⟨rfl,rfl,rfl⟩
   · simp (config:={ maxSteps:=10000000 }) (disch:=first | assumption | omega | (simp only [l9,w9,F3,j6,A8,E8,D8,I5,G9,I9,I8,H7,o9,D5,G8,Nat.reduceAdd,D7,E9,Nat.reduceBEq,G5,F9,d9,j5,l6,z8,D9,F7,F5,F4,G6,C8,q9,A9,q8,l8,l7,E5,C9,G7,IntKind.bits,D6,r9,o7] <;> omega) | assumption) only [hinc,I4,K6]
     have e:a0z n (q::l)=a0z n l:=by
      show bcase (decide (Int.ofNat q.1=n)) (some q) (a0z n l)=_
      rw [hb]; rfl
     rw [e]
     exact ih (i+1) k _ _ _ _ _ _ _ _ _ _ _ _ _ _ _ _ _ _ _ hd' (by simp at hk; omega)
theorem t97 (N:Nat) (hN:1000<N) (call:o8) (hc:∀ c h r w,go (call 127 []) ⟨c,h,r,w⟩=some (.ret (.slice (some ⟨c, 0,some 0⟩) 125 3),⟨c+1,upd h c (.cells (a1R (fun v=>(v, 0)) (a3Q a0j)) 0 false),r,c::w⟩)) (n:Int) (c:Nat) (h:Trie VObj) (r w:List Nat) :
 H6 (go (b8u H8 N call (.int .i64 n)) ⟨c,h,r,w⟩) fun x s=>x=.ret (a7l (a0z n a0j))∧∀ i,i<c→s.h.get i=h.get i:=by
 simp (config:={ maxSteps:=10000000 }) (disch:=first | assumption | omega | (simp only [l9,w9,F3,j6,A8,E8,D8,I5,G9,I9,I8,H7,o9,D5,G8,Nat.reduceAdd,D7,E9,Nat.reduceBEq,G5,F9,d9,j5,l6,z8,D9,F7,F5,F4,G6,C8,q9,A9,q8,l8,l7,E5,C9,G7,IntKind.bits,D6,r9,o7] <;> omega) | assumption) only [b8u,c6J,hc,U0,V5,U6,a1P,J6,I4,J4,a9t,V.e1g,Q9,a7r,T9,a0D,K9,M0]
 refine H6.bindS (c6m N call c (c+1) 125 n a0j rfl (by decide) _ _ _ (c+1+1) _ (by omega) (by omega) (by rw [F6 (by omega),I6]) (by rw [I6]) a0j 0 N _ _ _ _ _ _ _ _ _ _ _ _ _ _ _ _ _ _ _ rfl (by show 125<N; omega)) fun x s hq=>?_
 obtain ⟨x1,x2⟩:=x
 obtain ⟨c',h',r',w'⟩:=s
 obtain ⟨rfl,hq⟩:=hq
 cases hf:a0z n a0j with
 | none=>
   rw [hf] at hq
   obtain ⟨rfl,rfl⟩:=hq
   simp (config:={ maxSteps:=10000000 }) (disch:=first | assumption | omega | (simp only [l9,w9,F3,j6,A8,E8,D8,I5,G9,I9,I8,H7,o9,D5,G8,Nat.reduceAdd,D7,E9,Nat.reduceBEq,G5,F9,d9,j5,l6,z8,D9,F7,F5,F4,G6,C8,q9,A9,q8,l8,l7,E5,C9,G7,IntKind.bits,D6,r9,o7] <;> omega) | assumption) only [J6,I4,K3,a6I,J3,a2N,z8,Y5,K8,M5,V8,H9,I6,F6,O6,J5,J7,U5,Q0,R3,D7]
   refine H6.done ⟨rfl,fun i hi=>?_⟩
   simp (config:={ maxSteps:=10000000 }) (disch:=first | assumption | omega | (simp only [l9,w9,F3,j6,A8,E8,D8,I5,G9,I9,I8,H7,o9,D5,G8,Nat.reduceAdd,D7,E9,Nat.reduceBEq,G5,F9,d9,j5,l6,z8,D9,F7,F5,F4,G6,C8,q9,A9,q8,l8,l7,E5,C9,G7,IntKind.bits,D6,r9,o7] <;> omega) | assumption) only [F6]
 | some q=>
   rw [hf] at hq
   obtain ⟨rfl,e15,rfl⟩:=hq
   simp only at e15
   simp (config:={ maxSteps:=10000000 }) (disch:=first | assumption | omega | (simp only [l9,w9,F3,j6,A8,E8,D8,I5,G9,I9,I8,H7,o9,D5,G8,Nat.reduceAdd,D7,E9,Nat.reduceBEq,G5,F9,d9,j5,l6,z8,D9,F7,F5,F4,G6,C8,q9,A9,q8,l8,l7,E5,C9,G7,IntKind.bits,D6,r9,o7] <;> omega) | assumption) only [J6,I4,K3,a6I,a5Y,K8,M5,H9,I6,O6,J5,J7,e15]
   refine H6.done ⟨rfl,fun i hi=>?_⟩
   simp (config:={ maxSteps:=10000000 }) (disch:=first | assumption | omega | (simp only [l9,w9,F3,j6,A8,E8,D8,I5,G9,I9,I8,H7,o9,D5,G8,Nat.reduceAdd,D7,E9,Nat.reduceBEq,G5,F9,d9,j5,l6,z8,D9,F7,F5,F4,G6,C8,q9,A9,q8,l8,l7,E5,C9,G7,IntKind.bits,D6,r9,o7] <;> omega) | assumption) only [F6]
def idxB (a:Int):Bool:=decide (0≤a) && decide (a<4294967296)
def a2E (a:Int):Bool:=decide (1≤a) && decide (a≤4)
theorem t86 (N:Nat) (call:o8) (a:Int):b8y H8 N call (.int .i64 a)=M.pure (.ret (.bool (idxB a))):=by
 simp only [b8y,bn,U0,V5,a4w,a2M,a3P,a3O,X4,Y3,a5r,K6,V.e1g,a0t,a6x]
 rfl
theorem t59 (N:Nat) (call:o8) (a:Int):b8H H8 N call (.int .i64 a)=M.pure (.ret (.bool (idxB a))):=by
 simp only [b8H,bn,U0,V5,a4w,a2M,a3P,a3O,X4,Y3,a5r,K6,V.e1g,a0t,a6x]
 rfl
theorem t88 (N:Nat) (call:o8) (a:Int):b7X H8 N call (.int .i64 a)=M.pure (.ret (.bool (a2E a))):=by
 simp only [b7X,bn,U0,V5,a4w,a2M,a3P,a3O,X4,Y3,a5r,K6,V.e1g,a7R,a6x]
 rfl
theorem t61 (N:Nat) (call:o8) (a:Int):b9g H8 N call (.int .i64 a)=M.pure (.ret (.bool (a2E a))):=by
 simp only [b9g,bn,U0,V5,a4w,a2M,a3P,a3O,X4,Y3,a5r,K6,V.e1g,a7R,a6x]
 rfl
theorem t54 (N:Nat) (call:o8) (a:Int):b7N H8 N call (.int .i64 a)=M.pure (.ret (.bool (a2E a))):=by
 simp only [b7N,bn,U0,V5,a4w,a2M,a3P,a3O,X4,Y3,a5r,K6,V.e1g,a7R,a6x]
 rfl
noncomputable def a1Q (a:Int):List UInt8:=bcase (decide (a=1)) [105, 51, 50] (bcase (decide (a=2)) [105, 54, 52] (bcase (decide (a=3)) [102, 117, 110, 99, 114, 101, 102] (bcase (decide (a=4)) [101, 120, 116, 101, 114, 110, 114, 101, 102] [])))
theorem t40 (N:Nat) (call:o8) (a:Int):b7i H8 N call (.int .i64 a)=M.pure (.ret (.string ⟨⟨a1Q a⟩⟩)):=by
 simp only [b7i,c7m,c7h,c7L,bn,U0,a2M,M6,V.e1g,a6K,a8v,P8]
 rfl
theorem t43 (N:Nat) (call:o8) (a:Int):b6D H8 N call (.int .i64 a)=M.pure (.ret (.string ⟨⟨bcase (decide (a=3)) [102, 117, 110, 99] [101, 120, 116, 101, 114, 110]⟩⟩)):=by
 simp only [b6D,bn,U0,a2M,M6,V.e1g,a6K,a8v,P8]
 rfl
theorem t50 (N:Nat) (call:o8) (hc:∀ a,call 54 [.int .i64 a]=M.pure (.ret (.bool (a2E a)))) (a:Int):a2T (b8A H8 N call (.int .i64 a)) (.string ⟨⟨a1Q a⟩⟩):=by
 intro c h r w
 simp only [b8A,c6V,hc,un,U0,U6,J6,K3,J4,a2W,a5y,M6,V.e1g,R7,R8]
 refine H6.cases (fun hb=>?_) (fun hb=>?_)
 · simp only [a2E,Bool.and_eq_true,decide_eq_true_eq] at hb
   have:a=Int.ofNat 1∨a=Int.ofNat 2∨a=Int.ofNat 3∨a=Int.ofNat 4:=by simp only [Int.ofNat_eq_natCast]; omega
   rcases this with rfl | rfl | rfl | rfl
   all_goals
    simp (config:={ maxSteps:=10000000 }) (disch:=first | assumption | omega | (simp only [l9,w9,F3,j6,A8,E8,D8,I5,G9,I9,I8,H7,o9,D5,G8,Nat.reduceAdd,D7,E9,Nat.reduceBEq,G5,F9,d9,j5,l6,z8,D9,F7,F5,F4,G6,C8,q9,A9,q8,l8,l7,E5,C9,G7,IntKind.bits,D6,r9,o7] <;> omega) | assumption) only [J6,I4,K3,J3,X4,V.e1g,a6S,d9,T9,R9,U9,c4L,P5,O5,l9,w9,j6,H7,M8,K8,M5,H9,I6,K9,M0,O6,S9,J5,J7,G8,Nat.reduceMul]
    refine H6.done ⟨rfl,fun i hi=>?_⟩
    simp (config:={ maxSteps:=10000000 }) (disch:=first | assumption | omega | (simp only [l9,w9,F3,j6,A8,E8,D8,I5,G9,I9,I8,H7,o9,D5,G8,Nat.reduceAdd,D7,E9,Nat.reduceBEq,G5,F9,d9,j5,l6,z8,D9,F7,F5,F4,G6,C8,q9,A9,q8,l8,l7,E5,C9,G7,IntKind.bits,D6,r9,o7] <;> omega) | assumption) only [F6]
 · refine H6.done ⟨?_,fun i hi=>rfl⟩
   have:a1Q a=[]:=by
    simp only [a2E,Bool.and_eq_false_iff,decide_eq_false_iff_not] at hb
    unfold a1Q
    rw [show decide (a=1)=false by simp; omega,show decide (a=2)=false by simp; omega,show decide (a=3)=false by simp; omega,show decide (a=4)=false by simp; omega]
    rfl
   rw [this]
theorem b7h:∀ d,d<10→a5W (a2I [48, 49, 50, 51, 52, 53, 54, 55, 56, 57, 97, 98, 99, 100, 101, 102] d) (d+1 - d)=[UInt8.ofNat (48+d)]:=by decide
noncomputable def q25 (z:Int):Option Value:=match z with
 | .ofNat m=>bcase (Nat.blt m 18446744073709551616) (some (.string ⟨⟨Lib.decDigits m⟩⟩)) none
 | .negSucc _=>none
theorem a9D (m:Nat) (h:m<10):Lib.decDigits m=[UInt8.ofNat (48+m)]:=by rw [Lib.decDigits,dif_pos h]
theorem c0U (m:Nat) (h:¬ m<10):Lib.decDigits m=Lib.decDigits (m / 10) ++ [UInt8.ofNat (48+m % 10)]:=by rw [Lib.decDigits,dif_neg h]
theorem c9p (k:Nat):∀ m,m<10 ^ (k+1)→(Lib.decDigits m).length≤k+1:=by
 induction k with
 | zero=>intro m h; rw [a9D m (by omega)]; simp
 | succ k ih=>
   intro m h
   by_cases h1:m<10
   · rw [a9D m h1]; simp
   · rw [c0U m h1]
     have:=ih (m / 10) (by rw [Nat.pow_succ] at h; omega)
     simp; omega
theorem a4x (m:Nat) (h:m<18446744073709551616):(Lib.decDigits m).length≤20:=c9p 19 m (by omega)
theorem t25 (N:Nat) (sh:a1N) (hsh:sh.get 25=some (ar1 (b4y X0 N))) (k:Nat):∀ m,m<10 ^ (k+1)→m<18446744073709551616→K4 sh (k+1) 25 [.int .u64 (.ofNat m)]=M.pure (.ret (.string ⟨⟨Lib.decDigits m⟩⟩)):=by
 induction k with
 | zero=>
   intro m h h64
   have h10:m<10:=by omega
   have hb:decide (Int.ofNat m<Int.ofNat 10)=true:=by simp only [decide_eq_true_eq,Int.ofNat_eq_natCast]; omega
   have hw:a0H .u64 (Int.ofNat m+Int.ofNat 1)=Int.ofNat (m+1):=a3m .u64 (m+1) (by show m+1<18446744073709551616; omega)
   rw [a2H hsh]
   simp (config:={ maxSteps:=10000000 }) (disch:=first | assumption | omega | (simp only [l9,w9,F3,j6,A8,E8,D8,I5,G9,I9,I8,H7,o9,D5,G8,Nat.reduceAdd,D7,E9,Nat.reduceBEq,G5,F9,d9,j5,l6,z8,D9,F7,F5,F4,G6,C8,q9,A9,q8,l8,l7,E5,C9,G7,IntKind.bits,D6,r9,o7] <;> omega) | assumption) only [b4y,b6t,b6b,b3a,b6o,hb,hw,bn,U0,V5,P7,P9,J3,M6,V.e1g,a0t,a0G,b3d,b2Y,b1c,Nat.reduceAdd,b7h m h10]
   rw [a9D m h10]
 | succ k ih=>
   intro m h h64
   by_cases h10:m<10
   · have hb:decide (Int.ofNat m<Int.ofNat 10)=true:=by simp only [decide_eq_true_eq,Int.ofNat_eq_natCast]; omega
     have hw:a0H .u64 (Int.ofNat m+Int.ofNat 1)=Int.ofNat (m+1):=a3m .u64 (m+1) (by show m+1<18446744073709551616; omega)
     rw [a2H hsh]
     simp (config:={ maxSteps:=10000000 }) (disch:=first | assumption | omega | (simp only [l9,w9,F3,j6,A8,E8,D8,I5,G9,I9,I8,H7,o9,D5,G8,Nat.reduceAdd,D7,E9,Nat.reduceBEq,G5,F9,d9,j5,l6,z8,D9,F7,F5,F4,G6,C8,q9,A9,q8,l8,l7,E5,C9,G7,IntKind.bits,D6,r9,o7] <;> omega) | assumption) only [b4y,b6t,b6b,b3a,b6o,hb,hw,bn,U0,V5,P7,P9,J3,M6,V.e1g,a0t,a0G,b3d,b2Y,b1c,Nat.reduceAdd,b7h m h10]
     rw [a9D m h10]
   · have hb:decide (Int.ofNat m<Int.ofNat 10)=false:=by simp only [decide_eq_false_iff_not,Int.ofNat_eq_natCast]; omega
     have hw:a0H .u64 (Int.ofNat (m % 10)+Int.ofNat 1)=Int.ofNat (m % 10+1):=a3m .u64 (m % 10+1) (by show m % 10+1<18446744073709551616; omega)
     have hi:=ih (m / 10) (by rw [Nat.pow_succ] at h; omega) (by omega)
     have hl:L9 (Lib.decDigits (m / 10))≤20:=by rw [Z5]; exact a4x (m / 10) (by omega)
     rw [a2H hsh]
     simp (config:={ maxSteps:=10000000 }) (disch:=first | assumption | omega | (simp only [l9,w9,F3,j6,A8,E8,D8,I5,G9,I9,I8,H7,o9,D5,G8,Nat.reduceAdd,D7,E9,Nat.reduceBEq,G5,F9,d9,j5,l6,z8,D9,F7,F5,F4,G6,C8,q9,A9,q8,l8,l7,E5,C9,G7,IntKind.bits,D6,r9,o7] <;> omega) | assumption) only [b4y,b6t,b6b,b3a,b6o,c6n,hb,hw,hi,bn,U0,V5,J4,P7,P9,J2,X4,Y3,M6,V.e1g,R5,a0t,a0G,b3d,b2Y,X7,b1c,Nat.reduceAdd,b7h (m % 10) (by omega)]
     rw [c0U m h10,N9]
end Go.Proofs.YtmomonnlmbljoaaGreatDoor
end
