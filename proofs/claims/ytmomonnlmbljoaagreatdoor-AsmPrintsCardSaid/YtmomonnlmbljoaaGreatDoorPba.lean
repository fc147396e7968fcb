import Derived.Test.YtmomonnlmbljoaaGreatDoorPaz
section
namespace Go.Proofs.YtmomonnlmbljoaaGreatDoor
open Go.V Go.RowKit Go.Shelf Go.Proofs
set_option maxRecDepth 1000000
attribute [local congr] U8 U7 Y8 Z0 a0i
variable {mL:Int}
theorem b2Z (n:Nat):Lib.itoa (Int.ofNat n)=Lib.decDigits n:=by
 unfold Lib.itoa
 rw [if_neg (by simp only [Int.ofNat_eq_natCast]; omega)]
 rfl
theorem b2T (n:Nat):Lib.itoa (Int.negSucc n)=45::Lib.decDigits (n+1):=by
 unfold Lib.itoa
 rw [if_pos (Int.negSucc_lt_zero n)]
 rfl
theorem a6g (z:Int) (h1:-9223372036854775808≤z) (h2:z≤18446744073709551615):L9 (Lib.itoa z)≤21:=by
 rw [Z5]
 cases z with
 | ofNat n=>rw [b2Z]; have:=a4x n (by simp only [Int.ofNat_eq_natCast] at h2; omega); omega
 | negSucc n=>rw [b2T]; have:=a4x (n+1) (by omega); simp; omega
def sgn (w n:Nat):Int:=if n<2 ^ (w - 1) then (n:Int) else (n:Int) - 2 ^ w
noncomputable def a6b (z w:Int):Option Value:=match z with
 | .ofNat n=>match w with
   | .ofNat w=>bcase ((Nat.beq w 32 && Nat.blt n 4294967296) || (Nat.beq w 64 && Nat.blt n 18446744073709551616)) (some (.string ⟨⟨Lib.itoa (sgn w n)⟩⟩)) none
   | .negSucc _=>none
 | .negSucc _=>none
theorem a5p (k:IntKind) (n:Int):a0H k n=k.wrap n:=V.a5p k n
theorem b5G (n k:Nat):Nat.land n (2 ^ k - 1)=n % 2 ^ k:=Nat.and_two_pow_sub_one_eq_mod n k
theorem b1e (n:Nat) (hn:n<4294967296):-9223372036854775808≤sgn 32 n:=by unfold sgn; split <;> omega
theorem b0H (n:Nat) (hn:n<4294967296):sgn 32 n≤9223372036854775807:=by unfold sgn; split <;> omega
theorem c1R (n:Nat) (hn:n<4294967296):(a0H .i64 (Int.ofNat (n * 4294967296))).fdiv 4294967296=sgn 32 n:=by
 rw [a5p,IntKind.wrap_i64]
 unfold sgn
 rw [Int.fdiv_eq_ediv_of_nonneg _ (by decide)]
 simp only [Int.ofNat_eq_natCast]
 split <;> omega
theorem c3G (n:Nat) (hn:n<4294967296) (t:TypeId) (x y:Operand):a4c Tryz.prog R4 .shl t x y (.int .u64 (.ofNat n)) (.int .i64 (.ofNat 32))=M.pure (.int .u64 (.ofNat (n * 4294967296))):=by
 rw [a5J _ _ _ _ _ _ _ _ _ (by decide),show (2:Nat) ^ 32=4294967296 from rfl,a3m .u64 _ (by show n * 4294967296<18446744073709551616; omega)]
theorem c4A (n:Nat) (hn:n<4294967296) (t:TypeId) (x y:Operand):a4c Tryz.prog R4 .shr t x y (.int .i64 (a0H .i64 (Int.ofNat (n * 4294967296)))) (.int .i64 (.ofNat 32))=M.pure (.int .i64 (sgn 32 n)):=by
 rw [b8j _ _ _ _ _ _ _ _ _ (by decide),show (2:Int) ^ 32=4294967296 from rfl,c1R n hn]
theorem c9H (N:Nat) (call:o8) (n:Nat) (hn:n<4294967296) (hc:∀ z:Int, -9223372036854775808≤z→z≤9223372036854775807→call 95 [.int .i64 z,.int .i64 (.ofNat 10)]=M.pure (.ret (.string ⟨⟨Lib.itoa z⟩⟩))) :
 b1T H8 N call (.int .u64 (.ofNat n)) (.int .i64 (.ofNat 32))=M.pure (.ret (.string ⟨⟨Lib.itoa (sgn 32 n)⟩⟩)):=by
 have e4:=hc _ (b1e n hn) (b0H n hn)
 have e2:=c3G n hn
 have e5:=c4A n hn
 generalize n * 4294967296=b at e2 e5
 have e1:a0H .i64 (Int.ofNat 64 - Int.ofNat 32)=Int.ofNat 32:=by decide
 have b1:decide (Int.ofNat 32<Int.ofNat 1)=false:=by decide
 have b2:decide (Int.ofNat 64<Int.ofNat 32)=false:=by decide
 simp only [b1T,c2A,bn,U0,V5,U6,e1,b1,b2,a1X,J2,a2M,a3P,a3O,a5y,X4,Y3,a4h,M6,K6,V.e1g,a0t,a3s,a5F,a7G,e2,e5,e4,d1h]
theorem d0i (N:Nat) (call:o8) (n:Nat) (hn:n<18446744073709551616) (hc:∀ z:Int, -9223372036854775808≤z→z≤9223372036854775807→call 95 [.int .i64 z,.int .i64 (.ofNat 10)]=M.pure (.ret (.string ⟨⟨Lib.itoa z⟩⟩))) :
 b1T H8 N call (.int .u64 (.ofNat n)) (.int .i64 (.ofNat 64))=M.pure (.ret (.string ⟨⟨Lib.itoa (sgn 64 n)⟩⟩)):=by
 have e1:a0H .i64 (Int.ofNat 64 - Int.ofNat 64)=Int.ofNat 0:=by decide
 have e2:a0H .u64 (Int.ofNat n)=Int.ofNat n:=a3m .u64 _ hn
 have e3:(a0H .i64 (Int.ofNat n)).fdiv 1=sgn 64 n:=by
  rw [a5p,IntKind.wrap_i64]
  unfold sgn
  rw [Int.fdiv_eq_ediv_of_nonneg _ (by decide)]
  simp only [Int.ofNat_eq_natCast]
  split <;> omega
 have e4:call 95 [.int .i64 (sgn 64 n),.int .i64 (.ofNat 10)]=M.pure (.ret (.string ⟨⟨Lib.itoa (sgn 64 n)⟩⟩)):=hc _ (by unfold sgn; split <;> omega) (by unfold sgn; split <;> omega)
 have b1:decide (Int.ofNat 64<Int.ofNat 1)=false:=by decide
 have b2:decide (Int.ofNat 64<Int.ofNat 64)=false:=by decide
 simp (config:={ maxSteps:=10000000 }) (disch:=first | assumption | omega | (simp only [l9,w9,F3,j6,A8,E8,D8,I5,G9,I9,I8,H7,o9,D5,G8,Nat.reduceAdd,D7,E9,Nat.reduceBEq,G5,F9,d9,j5,l6,z8,D9,F7,F5,F4,G6,C8,q9,A9,q8,l8,l7,E5,C9,G7,IntKind.bits,D6,r9,o7] <;> omega) | assumption) only [b1T,c2A,e1,b1,b2,bn,U0,V5,U6,J4,a1X,J2,a2M,a3P,a3O,a5y,X4,Y3,a4h,Nat.reducePow,Int.reducePow,M6,K6,V.e1g,a0t,a3s,a5F,a5J,b8j,a7G,Nat.mul_one,e2,e3,e4]
theorem d1c (N:Nat) (call:o8) (n:Nat) (hn:n<4294967296) (hc:∀ m:Nat,m<18446744073709551616→call 25 [.int .u64 (.ofNat m)]=M.pure (.ret (.string ⟨⟨Lib.decDigits m⟩⟩))) :
 a9P H8 N call (.int .u64 (.ofNat n)) (.int .i64 (.ofNat 32))=M.pure (.ret (.string ⟨⟨Lib.itoa (sgn 32 n)⟩⟩)):=by
 have e1:a0H .i64 (Int.ofNat 32 - Int.ofNat 1)=Int.ofNat 31:=by decide
 have e2:a0H .u64 (Int.ofNat 2147483648)=Int.ofNat 2147483648:=by decide
 have e3:a0H .u64 (Int.ofNat 2147483648 - Int.ofNat 1)=Int.ofNat 2147483647:=by decide
 have e4:a0H .u64 (Int.ofNat 2147483647+Int.ofNat 2147483648)=Int.ofNat 4294967295:=by decide
 have e5:Nat.land n 4294967295=n:=by
  rw [show (4294967295:Nat)=2 ^ 32 - 1 by decide,b5G]; exact Nat.mod_eq_of_lt hn
 have b1:decide (Int.ofNat 32<Int.ofNat 1)=false:=by decide
 have b2:decide (Int.ofNat 64<Int.ofNat 32)=false:=by decide
 have hkb:G7 .u64=2 ^ IntKind.u64.bits:=by decide
 by_cases hs:n<2147483648
 · have b3:decide (Int.ofNat n<Int.ofNat 2147483648)=true:=by simp only [decide_eq_true_eq,Int.ofNat_eq_natCast]; omega
   have h1:=hc n (by omega)
   have e6:sgn 32 n=Int.ofNat n:=by unfold sgn; rw [if_pos (by omega)]; rfl
   simp (config:={ maxSteps:=10000000 }) (disch:=first | assumption | omega | (simp only [l9,w9,F3,j6,A8,E8,D8,I5,G9,I9,I8,H7,o9,D5,G8,Nat.reduceAdd,D7,E9,Nat.reduceBEq,G5,F9,d9,j5,l6,z8,D9,F7,F5,F4,G6,C8,q9,A9,q8,l8,l7,E5,C9,G7,IntKind.bits,D6,r9,o7] <;> omega) | assumption) only [a9P,b3X,b3i,e1,b1,b2,bn,U0,V5,U6,J4,a1X,J3,J2,a2M,a3P,a3O,a5y,X4,Y3,a4h,Nat.reducePow,M6,K6,V.e1g,a0t,a3s,a0G,a5F,b1i,a5J,Nat.one_mul,e2,e3,e4,e5,b3,h1,e6,b2Z]
 · have b3:decide (Int.ofNat n<Int.ofNat 2147483648)=false:=by simp only [decide_eq_false_iff_not,Int.ofNat_eq_natCast]; omega
   have h1:=hc (4294967296 - n) (by omega)
   have hl:L9 (Lib.decDigits (4294967296 - n))≤20:=by rw [Z5]; exact a4x _ (by omega)
   have e6:sgn 32 n=Int.negSucc (4294967295 - n):=by unfold sgn; rw [if_neg (by omega)]; rw [Int.negSucc_eq]; omega
   have e7:a0H .u64 (Int.ofNat n - Int.ofNat 2147483648)=Int.ofNat (n - 2147483648):=by
    rw [show Int.ofNat n - Int.ofNat 2147483648=Int.ofNat (n - 2147483648) by simp only [Int.ofNat_eq_natCast]; omega]
    exact a3m .u64 _ (by show n - 2147483648<18446744073709551616; omega)
   have e8:a0H .u64 (Int.ofNat 2147483648 - Int.ofNat (n - 2147483648))=Int.ofNat (4294967296 - n):=by
    rw [show Int.ofNat 2147483648 - Int.ofNat (n - 2147483648)=Int.ofNat (4294967296 - n) by simp only [Int.ofNat_eq_natCast]; omega]
    exact a3m .u64 _ (by show 4294967296 - n<18446744073709551616; omega)
   simp (config:={ maxSteps:=10000000 }) (disch:=first | assumption | omega | (simp only [l9,w9,F3,j6,A8,E8,D8,I5,G9,I9,I8,H7,o9,D5,G8,Nat.reduceAdd,D7,E9,Nat.reduceBEq,G5,F9,d9,j5,l6,z8,D9,F7,F5,F4,G6,C8,q9,A9,q8,l8,l7,E5,C9,G7,IntKind.bits,D6,r9,o7] <;> omega) | assumption) only [a9P,b3X,b3i,e1,b1,b2,bn,U0,V5,U6,J4,r9,o7,a1X,J2,a2M,a3P,a3O,a5y,X4,Y3,a4h,Nat.reducePow,M6,K6,V.e1g,a0t,a3s,a0G,a5F,b1i,a5J,X7,Nat.one_mul,e2,e3,e4,e5,b3,e7,e8,h1,e6,b2T]
   rw [show 4294967295 - n+1=4294967296 - n by omega]
theorem d1j (N:Nat) (call:o8) (n:Nat) (hn:n<18446744073709551616) (hc:∀ m:Nat,m<18446744073709551616→call 25 [.int .u64 (.ofNat m)]=M.pure (.ret (.string ⟨⟨Lib.decDigits m⟩⟩))) :
 a9P H8 N call (.int .u64 (.ofNat n)) (.int .i64 (.ofNat 64))=M.pure (.ret (.string ⟨⟨Lib.itoa (sgn 64 n)⟩⟩)):=by
 have e1:a0H .i64 (Int.ofNat 64 - Int.ofNat 1)=Int.ofNat 63:=by decide
 have e2:a0H .u64 (Int.ofNat 9223372036854775808)=Int.ofNat 9223372036854775808:=by decide
 have e3:a0H .u64 (Int.ofNat 9223372036854775808 - Int.ofNat 1)=Int.ofNat 9223372036854775807:=by decide
 have e4:a0H .u64 (Int.ofNat 9223372036854775807+Int.ofNat 9223372036854775808)=Int.ofNat 18446744073709551615:=by decide
 have e5:Nat.land n 18446744073709551615=n:=by
  rw [show (18446744073709551615:Nat)=2 ^ 64 - 1 by decide,b5G]; exact Nat.mod_eq_of_lt hn
 have b1:decide (Int.ofNat 64<Int.ofNat 1)=false:=by decide
 have b2:decide (Int.ofNat 64<Int.ofNat 64)=false:=by decide
 have hkb:G7 .u64=2 ^ IntKind.u64.bits:=by decide
 by_cases hs:n<9223372036854775808
 · have b3:decide (Int.ofNat n<Int.ofNat 9223372036854775808)=true:=by simp only [decide_eq_true_eq,Int.ofNat_eq_natCast]; omega
   have h1:=hc n (by omega)
   have e6:sgn 64 n=Int.ofNat n:=by unfold sgn; rw [if_pos (by omega)]; rfl
   simp (config:={ maxSteps:=10000000 }) (disch:=first | assumption | omega | (simp only [l9,w9,F3,j6,A8,E8,D8,I5,G9,I9,I8,H7,o9,D5,G8,Nat.reduceAdd,D7,E9,Nat.reduceBEq,G5,F9,d9,j5,l6,z8,D9,F7,F5,F4,G6,C8,q9,A9,q8,l8,l7,E5,C9,G7,IntKind.bits,D6,r9,o7] <;> omega) | assumption) only [a9P,b3X,b3i,e1,b1,b2,bn,U0,V5,U6,J4,a1X,J3,J2,a2M,a3P,a3O,a5y,X4,Y3,a4h,Nat.reducePow,M6,K6,V.e1g,a0t,a3s,a0G,a5F,b1i,a5J,Nat.one_mul,e2,e3,e4,e5,b3,h1,e6,b2Z]
 · have b3:decide (Int.ofNat n<Int.ofNat 9223372036854775808)=false:=by simp only [decide_eq_false_iff_not,Int.ofNat_eq_natCast]; omega
   have h1:=hc (18446744073709551616 - n) (by omega)
   have hl:L9 (Lib.decDigits (18446744073709551616 - n))≤20:=by rw [Z5]; exact a4x _ (by omega)
   have e6:sgn 64 n=Int.negSucc (18446744073709551615 - n):=by unfold sgn; rw [if_neg (by omega)]; rw [Int.negSucc_eq]; omega
   have e7:a0H .u64 (Int.ofNat n - Int.ofNat 9223372036854775808)=Int.ofNat (n - 9223372036854775808):=by
    rw [show Int.ofNat n - Int.ofNat 9223372036854775808=Int.ofNat (n - 9223372036854775808) by simp only [Int.ofNat_eq_natCast]; omega]
    exact a3m .u64 _ (by show n - 9223372036854775808<18446744073709551616; omega)
   have e8:a0H .u64 (Int.ofNat 9223372036854775808 - Int.ofNat (n - 9223372036854775808))=Int.ofNat (18446744073709551616 - n):=by
    rw [show Int.ofNat 9223372036854775808 - Int.ofNat (n - 9223372036854775808)=Int.ofNat (18446744073709551616 - n) by simp only [Int.ofNat_eq_natCast]; omega]
    exact a3m .u64 _ (by show 18446744073709551616 - n<18446744073709551616; omega)
   simp (config:={ maxSteps:=10000000 }) (disch:=first | assumption | omega | (simp only [l9,w9,F3,j6,A8,E8,D8,I5,G9,I9,I8,H7,o9,D5,G8,Nat.reduceAdd,D7,E9,Nat.reduceBEq,G5,F9,d9,j5,l6,z8,D9,F7,F5,F4,G6,C8,q9,A9,q8,l8,l7,E5,C9,G7,IntKind.bits,D6,r9,o7] <;> omega) | assumption) only [a9P,b3X,b3i,e1,b1,b2,bn,U0,V5,U6,J4,r9,o7,a1X,J2,a2M,a3P,a3O,a5y,X4,Y3,a4h,Nat.reducePow,M6,K6,V.e1g,a0t,a3s,a0G,a5F,b1i,a5J,X7,Nat.one_mul,e2,e3,e4,e5,b3,e7,e8,h1,e6,b2T]
   rw [show 18446744073709551615 - n+1=18446744073709551616 - n by omega]
theorem t55 (N:Nat) (call:o8) (z:Int) (h1:-9223372036854775808≤z) (h2:z≤9223372036854775807) (hc:∀ n:Nat,n<18446744073709551616→call 53 [.int .u64 (.ofNat n),.int .i64 (.ofNat 64)]=M.pure (.ret (.string ⟨⟨Lib.itoa (sgn 64 n)⟩⟩))) :
 b9o H8 N call (.int .i64 z)=M.pure (.ret (.string ⟨⟨Lib.itoa z⟩⟩)):=by
 obtain ⟨n,hn,e,es⟩:∃ n:Nat,n<18446744073709551616∧a0H .u64 z=Int.ofNat n∧sgn 64 n=z:=by
  refine ⟨(z % 18446744073709551616).toNat,by omega, ?_, ?_⟩
  · rw [a5p,IntKind.wrap_u64]; simp only [Int.ofNat_eq_natCast]; omega
  · unfold sgn; split <;> omega
 have h:=hc n hn
 rw [es] at h
 simp (config:={ maxSteps:=10000000 }) (disch:=first | assumption | omega | (simp only [l9,w9,F3,j6,A8,E8,D8,I5,G9,I9,I8,H7,o9,D5,G8,Nat.reduceAdd,D7,E9,Nat.reduceBEq,G5,F9,d9,j5,l6,z8,D9,F7,F5,F4,G6,C8,q9,A9,q8,l8,l7,E5,C9,G7,IntKind.bits,D6,r9,o7] <;> omega) | assumption) only [b9o,U0,U6,J4,V.e1g,a7G,e,h]
noncomputable def X8 (m:Nat):List UInt8:=32::Lib.decDigits m
noncomputable def q47 (z:Int):Option Value:=match z with
 | .ofNat m=>bcase (Nat.blt m 18446744073709551616) (some (.string ⟨⟨X8 m⟩⟩)) none
 | .negSucc _=>none
theorem t47 (N:Nat) (call:o8) (m:Nat) (hm:m<18446744073709551616) (hc:∀ m:Nat,m<18446744073709551616→call 25 [.int .u64 (.ofNat m)]=M.pure (.ret (.string ⟨⟨Lib.decDigits m⟩⟩))) :
 b6Z H8 N call (.int .i64 (.ofNat m))=M.pure (.ret (.string ⟨⟨X8 m⟩⟩)):=by
 have e:a0H .u64 (Int.ofNat m)=Int.ofNat m:=a3m .u64 m hm
 have hl:L9 (Lib.decDigits m)≤20:=by rw [Z5]; exact a4x _ hm
 have h1:=hc m hm
 simp (config:={ maxSteps:=10000000 }) (disch:=first | assumption | omega | (simp only [l9,w9,F3,j6,A8,E8,D8,I5,G9,I9,I8,H7,o9,D5,G8,Nat.reduceAdd,D7,E9,Nat.reduceBEq,G5,F9,d9,j5,l6,z8,D9,F7,F5,F4,G6,C8,q9,A9,q8,l8,l7,E5,C9,G7,IntKind.bits,D6,r9,o7] <;> omega) | assumption) only [b6Z,bn,U0,U6,J4,r9,o7,V.e1g,X7,a7G,e,h1]
 rfl
noncomputable def a0C (m:Nat):List UInt8:=bcase (Nat.beq m 0) [] (X8 m)
noncomputable def q49 (z:Int):Option Value:=match z with
 | .ofNat m=>bcase (Nat.blt m 18446744073709551616) (some (.string ⟨⟨a0C m⟩⟩)) none
 | .negSucc _=>none
theorem V9 (a b:Nat):decide (Int.ofNat a=Int.ofNat b)=Nat.beq a b:=by
 cases h:Nat.beq a b with
 | true=>rw [Nat.eq_of_beq_eq_true h]; simp
 | false=>have:a≠b:=fun e=>by rw [e] at h; simp at h
          simp only [decide_eq_false_iff_not,Int.ofNat_eq_natCast]; omega
theorem t49 (N:Nat) (call:o8) (m:Nat) (hm:m<18446744073709551616) (hc:∀ m:Nat,m<18446744073709551616→call 47 [.int .i64 (.ofNat m)]=M.pure (.ret (.string ⟨⟨X8 m⟩⟩))) :
 b7Z H8 N call (.int .i64 (.ofNat m))=M.pure (.ret (.string ⟨⟨a0C m⟩⟩)):=by
 have h1:=hc m hm
 simp (config:={ maxSteps:=10000000 }) (disch:=first | assumption | omega | (simp only [l9,w9,F3,j6,A8,E8,D8,I5,G9,I9,I8,H7,o9,D5,G8,Nat.reduceAdd,D7,E9,Nat.reduceBEq,G5,F9,d9,j5,l6,z8,D9,F7,F5,F4,G6,C8,q9,A9,q8,l8,l7,E5,C9,G7,IntKind.bits,D6,r9,o7] <;> omega) | assumption) only [b7Z,bn,U0,U6,J4,a2M,M6,V.e1g,a6K,a8v,P8,h1,V9]
 rfl
noncomputable def a4A (m n:Nat):List UInt8:=bcase (Nat.beq m 0 && Nat.beq n 0) [] (X8 m ++ X8 n)
noncomputable def q51 (z z':Int):Option Value:=match z with
 | .ofNat m=>match z' with
   | .ofNat n=>bcase (Nat.blt m 18446744073709551616 && Nat.blt n 18446744073709551616) (some (.string ⟨⟨a4A m n⟩⟩)) none
   | .negSucc _=>none
 | .negSucc _=>none
theorem a2z (m:Nat) (hm:m<18446744073709551616):L9 (X8 m)≤21:=by
 rw [Z5]; have:=a4x m hm; simp [X8]; omega
theorem t51 (N:Nat) (call:o8) (m n:Nat) (hm:m<18446744073709551616) (hn:n<18446744073709551616) (hc:∀ m:Nat,m<18446744073709551616→call 47 [.int .i64 (.ofNat m)]=M.pure (.ret (.string ⟨⟨X8 m⟩⟩))) :
 b7B H8 N call (.int .i64 (.ofNat m)) (.int .i64 (.ofNat n))=M.pure (.ret (.string ⟨⟨a4A m n⟩⟩)):=by
 have h1:=hc m hm
 have h2:=hc n hn
 have l1:=a2z m hm
 have l2:=a2z n hn
 simp (config:={ maxSteps:=10000000 }) (disch:=first | assumption | omega | (simp only [l9,w9,F3,j6,A8,E8,D8,I5,G9,I9,I8,H7,o9,D5,G8,Nat.reduceAdd,D7,E9,Nat.reduceBEq,G5,F9,d9,j5,l6,z8,D9,F7,F5,F4,G6,C8,q9,A9,q8,l8,l7,E5,C9,G7,IntKind.bits,D6,r9,o7] <;> omega) | assumption) only [b7B,c6S,bn,U0,V5,U6,J4,a4w,a2M,a3P,a3O,X4,Y3,a5r,M6,K6,V.e1g,a6K,a8v,P8,X7,h1,h2,V9]
 rw [N9]
 rfl
theorem b7f {op:BinOp} (hop:op=.eql∨op=.neq) (x y:Operand) (a b d a' b' d':Int):a4c Tryz.prog R4 op 26 x y (.agg ⟨[.int .i64 a,.int .i64 b,.int .i64 d]⟩) (.agg ⟨[.int .i64 a',.int .i64 b',.int .i64 d']⟩)=M.pure (.bool (b2O op (a7J [a,b,d] [a',b',d']))):=by
 refine b9B (fs:=Tryz.prog.fieldsOf 26) hop (by kernel_rfl) (by kernel_rfl) (by kernel_rfl) ?_ rfl rfl (fun i hi=>?_)
 · refine ⟨of_decide_eq_true (by kernel_rfl),by kernel_rfl,⟨.i64,by kernel_rfl⟩,⟨.i64,rfl,rfl⟩, ?_⟩
   refine ⟨of_decide_eq_true (by kernel_rfl),by kernel_rfl,⟨.i64,by kernel_rfl⟩,⟨.i64,rfl,rfl⟩, ?_⟩
   refine ⟨of_decide_eq_true (by kernel_rfl),by kernel_rfl,⟨.i64,by kernel_rfl⟩,⟨.i64,rfl,rfl⟩, ?_⟩
   trivial
 · have:R4.types.get 26=some c6o:=by kernel_rfl
   rw [this] at hi
   rw [← Option.some.inj hi]
   have e:c6o.und=.struct (Tryz.prog.fieldsOf 26):=by kernel_rfl
   exact e
theorem b6P (x y:Operand) (a b d a' b' d':Int):a4c Tryz.prog R4 .eql 26 x y (.agg ⟨[.int .i64 a,.int .i64 b,.int .i64 d]⟩) (.agg ⟨[.int .i64 a',.int .i64 b',.int .i64 d']⟩)=M.pure (.bool (decide (a=a') && (decide (b=b') && (decide (d=d') && true)))):=b7f (Or.inl rfl) x y a b d a' b' d'
theorem b1m (x y:Operand) (a b d a' b' d':Int):a4c Tryz.prog R4 .neq 26 x y (.agg ⟨[.int .i64 a,.int .i64 b,.int .i64 d]⟩) (.agg ⟨[.int .i64 a',.int .i64 b',.int .i64 d']⟩)=M.pure (.bool (!(decide (a=a') && (decide (b=b') && (decide (d=d') && true))))):=b7f (Or.inr rfl) x y a b d a' b' d'
theorem c4i:Int.ofNat 0=0:=rfl
theorem b4t:Int.ofNat 1=1:=rfl
theorem b4o:Int.ofNat 2=2:=rfl
noncomputable def a4H (k v i:Int):Bool:=bcase (decide (k=0)) (decide (v=0) && decide (i=0)) (bcase (decide (k=1)) (a2E v && decide (i=0)) (decide (k=2) && decide (v=0) && idxB i))
theorem t87 (N:Nat) (call:o8) (h86:∀ n,call 86 [.int .i64 n]=M.pure (.ret (.bool (idxB n)))) (h88:∀ n,call 88 [.int .i64 n]=M.pure (.ret (.bool (a2E n)))) (k v i:Int) :
 a2T (b6S H8 N call (.agg ⟨[.int .i64 k,.int .i64 v,.int .i64 i]⟩)) (.bool (a4H k v i)):=by
 intro c h r w
 simp (config:={ maxSteps:=10000000 }) (disch:=first | assumption | omega | (simp only [l9,w9,F3,j6,A8,E8,D8,I5,G9,I9,I8,H7,o9,D5,G8,Nat.reduceAdd,D7,E9,Nat.reduceBEq,G5,F9,d9,j5,l6,z8,D9,F7,F5,F4,G6,C8,q9,A9,q8,l8,l7,E5,C9,G7,IntKind.bits,D6,r9,o7] <;> omega) | assumption) only [b6S,c7M,c7z,c7B,c7n,c6F,b6P,h86,h88,bn,U0,V5,U6,J6,I4,K3,J4,a2W,a5N,U3,a4w,a3P,a3O,X4,Y3,b3W,a5r,M6,K6,V.e1g,Q9,a6K,b2e,P8,Q7,a7r,T9,M7,M8,Q8,K8,M5,H9,I6,K9,M0,O6,S9,J5,J7,G8,Nat.add_zero,c4i,b4t,b4o,I9]
 refine H6.done ⟨?_,fun j hj=>by simp (config:={ maxSteps:=10000000 }) (disch:=first | assumption | omega | (simp only [l9,w9,F3,j6,A8,E8,D8,I5,G9,I9,I8,H7,o9,D5,G8,Nat.reduceAdd,D7,E9,Nat.reduceBEq,G5,F9,d9,j5,l6,z8,D9,F7,F5,F4,G6,C8,q9,A9,q8,l8,l7,E5,C9,G7,IntKind.bits,D6,r9,o7] <;> omega) | assumption) only [F6]⟩
 unfold a4H
 generalize decide (k=0)=b0
 generalize decide (k=1)=b1
 generalize decide (k=2)=b2
 cases b0 <;> cases b1 <;> cases b2 <;> cases decide (v=0) <;> rfl
theorem t58 (N:Nat) (call:o8) (h59:∀ n,call 59 [.int .i64 n]=M.pure (.ret (.bool (idxB n)))) (h61:∀ n,call 61 [.int .i64 n]=M.pure (.ret (.bool (a2E n)))) (k v i:Int) :
 a2T (b8b H8 N call (.agg ⟨[.int .i64 k,.int .i64 v,.int .i64 i]⟩)) (.bool (a4H k v i)):=by
 intro c h r w
 simp (config:={ maxSteps:=10000000 }) (disch:=first | assumption | omega | (simp only [l9,w9,F3,j6,A8,E8,D8,I5,G9,I9,I8,H7,o9,D5,G8,Nat.reduceAdd,D7,E9,Nat.reduceBEq,G5,F9,d9,j5,l6,z8,D9,F7,F5,F4,G6,C8,q9,A9,q8,l8,l7,E5,C9,G7,IntKind.bits,D6,r9,o7] <;> omega) | assumption) only [b8b,c7j,c6N,c7g,c7f,c7K,h59,h61,bn,U0,V5,U6,J6,I4,K3,J4,a2W,a5N,U3,a4w,a3P,a3O,X4,Y3,a5r,M6,K6,V.e1g,a6K,b2e,P8,Q7,M7,M8,K8,M5,H9,I6,K9,M0,O6,S9,J5,J7,G8,Nat.add_zero,c4i,b4t,b4o]
 refine H6.done ⟨?_,fun j hj=>by simp (config:={ maxSteps:=10000000 }) (disch:=first | assumption | omega | (simp only [l9,w9,F3,j6,A8,E8,D8,I5,G9,I9,I8,H7,o9,D5,G8,Nat.reduceAdd,D7,E9,Nat.reduceBEq,G5,F9,d9,j5,l6,z8,D9,F7,F5,F4,G6,C8,q9,A9,q8,l8,l7,E5,C9,G7,IntKind.bits,D6,r9,o7] <;> omega) | assumption) only [F6]⟩
 unfold a4H
 generalize decide (k=0)=b0
 generalize decide (k=1)=b1
 generalize decide (k=2)=b2
 cases b0 <;> cases b1 <;> cases b2 <;> cases decide (v=0) <;> rfl
noncomputable def a5H (k v i:Int):List UInt8:=bcase (decide (k=1)) (bcase (a2E v) (40::114::101::115::117::108::116::32::(a1Q v ++ [41])) []) (bcase (decide (k=2)) (40::116::121::112::101::32::(Lib.itoa i ++ [41])) [])
theorem c1m (v:Int):(!(beqBytes (a1Q v) []))=a2E v:=by
 by_cases h:1≤v∧v≤4
 · have:v=1∨v=2∨v=3∨v=4:=by omega
   rcases this with rfl | rfl | rfl | rfl <;> rfl
 · have e:a2E v=false:=by
    simp only [a2E,Bool.and_eq_false_iff,decide_eq_false_iff_not]; omega
   rw [e]
   unfold a1Q
   rw [show decide (v=1)=false by simp; omega,show decide (v=2)=false by simp; omega,show decide (v=3)=false by simp; omega,show decide (v=4)=false by simp; omega]
   rfl
theorem a6n (v:Int):L9 (a1Q v)≤9:=by
 unfold a1Q
 cases decide (v=1) <;> cases decide (v=2) <;> cases decide (v=3) <;> cases decide (v=4) <;> decide
theorem t14 (N:Nat) (call:o8) (h40:∀ n,call 40 [.int .i64 n]=M.pure (.ret (.string ⟨⟨a1Q n⟩⟩))) (k v i:Int) (hi1:-9223372036854775808≤i) (hi2:i≤9223372036854775807) (h37:call 37 [.int .i64 i]=M.pure (.ret (.string ⟨⟨Lib.itoa i⟩⟩))) :
 a2T (b7d H8 N call (.agg ⟨[.int .i64 k,.int .i64 v,.int .i64 i]⟩)) (.string ⟨⟨a5H k v i⟩⟩):=by
 intro c h r w
 have l1:=a6g i hi1 (by omega)
 have l2:=a6n v
 simp (config:={ maxSteps:=10000000 }) (disch:=first | assumption | omega | (simp only [l9,w9,F3,j6,A8,E8,D8,I5,G9,I9,I8,H7,o9,D5,G8,Nat.reduceAdd,D7,E9,Nat.reduceBEq,G5,F9,d9,j5,l6,z8,D9,F7,F5,F4,G6,C8,q9,A9,q8,l8,l7,E5,C9,G7,IntKind.bits,D6,r9,o7] <;> omega) | assumption) only [b7d,c7G,c7c,c7k,c7q,h40,h37,bn,U0,U6,J6,I4,K3,J4,a2W,a5N,U3,r9,o7,a2M,X4,M6,V.e1g,a6K,a8v,P8,a8u,X7,Q7,M7,M8,K8,M5,H9,I6,K9,M0,O6,S9,J5,J7,G8,Nat.add_zero,b4t,b4o,c1m]
 refine H6.done ⟨?_,fun j hj=>by simp (config:={ maxSteps:=10000000 }) (disch:=first | assumption | omega | (simp only [l9,w9,F3,j6,A8,E8,D8,I5,G9,I9,I8,H7,o9,D5,G8,Nat.reduceAdd,D7,E9,Nat.reduceBEq,G5,F9,d9,j5,l6,z8,D9,F7,F5,F4,G6,C8,q9,A9,q8,l8,l7,E5,C9,G7,IntKind.bits,D6,r9,o7] <;> omega) | assumption) only [F6]⟩
 unfold a5H
 simp only [N9]
theorem t15 (N:Nat) (call:o8) (h50:∀ n,call 50 [.int .i64 n]=M.pure (.ret (.string ⟨⟨a1Q n⟩⟩))) (h54:∀ n,call 54 [.int .i64 n]=M.pure (.ret (.bool (a2E n)))) (k v i:Int) (hi1:-9223372036854775808≤i) (hi2:i≤9223372036854775807) (h55:call 55 [.int .i64 i]=M.pure (.ret (.string ⟨⟨Lib.itoa i⟩⟩))) :
 a2T (b7P H8 N call (.agg ⟨[.int .i64 k,.int .i64 v,.int .i64 i]⟩)) (.string ⟨⟨a5H k v i⟩⟩):=by
 intro c h r w
 have l1:=a6g i hi1 (by omega)
 have l2:=a6n v
 simp (config:={ maxSteps:=10000000 }) (disch:=first | assumption | omega | (simp only [l9,w9,F3,j6,A8,E8,D8,I5,G9,I9,I8,H7,o9,D5,G8,Nat.reduceAdd,D7,E9,Nat.reduceBEq,G5,F9,d9,j5,l6,z8,D9,F7,F5,F4,G6,C8,q9,A9,q8,l8,l7,E5,C9,G7,IntKind.bits,D6,r9,o7] <;> omega) | assumption) only [b7P,c7x,c6E,c7w,c6U,h50,h54,h55,bn,un,U0,U6,J6,I4,K3,J4,a2W,a5N,U3,r9,o7,a5y,X4,M6,V.e1g,a6K,a8v,P8,R7,X7,Q7,M7,M8,K8,M5,H9,I6,K9,M0,O6,S9,J5,J7,G8,Nat.add_zero,b4t,b4o]
 refine H6.done ⟨?_,fun j hj=>by simp (config:={ maxSteps:=10000000 }) (disch:=first | assumption | omega | (simp only [l9,w9,F3,j6,A8,E8,D8,I5,G9,I9,I8,H7,o9,D5,G8,Nat.reduceAdd,D7,E9,Nat.reduceBEq,G5,F9,d9,j5,l6,z8,D9,F7,F5,F4,G6,C8,q9,A9,q8,l8,l7,E5,C9,G7,IntKind.bits,D6,r9,o7] <;> omega) | assumption) only [F6]⟩
 unfold a5H
 simp only [N9]
noncomputable def V4 (z:Int):List UInt8:=match a0z z a0j with
 | some r=>r.2.1
 | none=>[]
noncomputable def a2q (z:Int):Bool:=match a0z z a0j with
 | some _=>true
 | none=>false
noncomputable def a0n (z:Int):Nat:=match a0z z a0j with
 | some r=>r.2.2
 | none=>0
theorem c2B (z:Int):∀ l:List a4V,(match (l.map fun r=>(r.1,r.2.1)).find? (fun x=>(Int.ofNat x.1) == z) with | some x=>(⟨⟨x.2⟩⟩:ByteArray) | none=>ByteArray.empty)=⟨⟨match a0z z l with | some r=>r.2.1 | none=>[]⟩⟩:=by
 intro l
 induction l with
 | nil=>rfl
 | cons r l ih=>
   rw [List.map_cons,List.find?_cons]
   show _=(⟨⟨match bcase (decide (Int.ofNat r.1=z)) (some r) (a0z z l) with | some r=>r.2.1 | none=>[]⟩⟩:ByteArray)
   by_cases h:Int.ofNat r.1=z
   · have h':(Int.ofNat r.1 == z)=true:=by rw [beq_iff_eq]; exact h
     simp only [h',decide_eq_true h,J3]
   · have h':(Int.ofNat r.1 == z)=false:=by rw [beq_eq_false_iff_ne]; exact h
     simp only [h',decide_eq_false h,J2]
     exact ih
theorem b8M:a3X=a1R (fun r=>(r.1,r.2.1)) a0j:=by kernel_rfl
theorem c4e (z:Int):b0c z=⟨⟨V4 z⟩⟩:=by
 unfold b0c
 rw [b8M,a3I]
 exact c2B z a0j
theorem d6A:Y4 Tryz.prog R4 (V6 mL) 35 (X1 .i64 fun z=>some (.string ⟨⟨V4 z⟩⟩)):=b2l fun z v h=>by
 cases h
 refine ⟨rfl,fun w hL=>⟨a1J Tryz.func35 (by kernel_rfl) rfl, ?_⟩⟩
 refine (callsIn_wide.1 (c0Z 3 (by omega) z w hL)).mono fun e W' hq=>?_
 obtain ⟨rfl,hb⟩:=hq
 exact ⟨by rw [c4e],hb⟩
theorem a6o (z:Int):∀ (l:List a4V) (r:a4V),a0z z l=some r→r∈l∧z=Int.ofNat r.1:=by
 intro l
 induction l with
 | nil=>intro r h; cases h
 | cons q l ih=>
   intro r h
   have h':bcase (decide (Int.ofNat q.1=z)) (some q) (a0z z l)=some r:=h
   by_cases hq:Int.ofNat q.1=z
   · rw [decide_eq_true hq] at h'
     cases h'
     exact ⟨List.mem_cons_self,hq.symm⟩
   · rw [decide_eq_false hq] at h'
     obtain ⟨h1,h2⟩:=ih r h'
     exact ⟨List.mem_cons_of_mem _ h1,h2⟩
theorem b7n (z:Int):∀ (l:List a4V),a0z z l=none→∀ r∈l,Int.ofNat r.1≠z:=by
 intro l
 induction l with
 | nil=>intro _ r h; cases h
 | cons q l ih=>
   intro h r hr
   have h':bcase (decide (Int.ofNat q.1=z)) (some q) (a0z z l)=none:=h
   by_cases hq:Int.ofNat q.1=z
   · rw [decide_eq_true hq] at h'; cases h'
   · rw [decide_eq_false hq] at h'
     rcases List.mem_cons.1 hr with rfl | hr
     · exact hq
     · exact ih h' r hr
theorem c5g:a0o (fun r:a4V=>!(beqBytes r.2.1 [])) a0j=true:=by kernel_rfl
theorem c5Y (z:Int):(!(beqBytes (V4 z) []))=a2q z:=by
 unfold V4 a2q
 cases h:a0z z a0j with
 | none=>rfl
 | some r=>exact (a0y _ _).1 c5g r (a6o z a0j r h).1
theorem c4D:a0o (fun r:a4V=>Nat.ble (L9 r.2.1) 20) a0j=true:=by kernel_rfl
theorem X9 (z:Int):L9 (V4 z)≤20:=by
 unfold V4
 cases h:a0z z a0j with
 | none=>decide
 | some r=>exact Nat.le_of_ble_eq_true ((a0y _ _).1 c4D r (a6o z a0j r h).1)
theorem t85 (N:Nat) (call:o8) (h35:∀ n,call 35 [.int .i64 n]=M.pure (.ret (.string ⟨⟨V4 n⟩⟩))) (z:Int):b7V H8 N call (.int .i64 z)=M.pure (.ret (.bool (a2q z))):=by
 simp only [b7V,h35,bn,U0,U6,J4,V.e1g,a8u,c5Y]
theorem t45 (N:Nat) (call:o8) (h97:∀ n,call 97 [.int .i64 n]=M.pure (.ret (a7l (a0z n a0j)))) (z:Int):a2T (b4I H8 N call (.int .i64 z)) (.string ⟨⟨V4 z⟩⟩):=by
 intro c h r w
 unfold V4
 have e:=h97 z
 cases hf:a0z z a0j with
 | none=>
   rw [hf] at e
   simp (config:={ maxSteps:=10000000 }) (disch:=first | assumption | omega | (simp only [l9,w9,F3,j6,A8,E8,D8,I5,G9,I9,I8,H7,o9,D5,G8,Nat.reduceAdd,D7,E9,Nat.reduceBEq,G5,F9,d9,j5,l6,z8,D9,F7,F5,F4,G6,C8,q9,A9,q8,l8,l7,E5,C9,G7,IntKind.bits,D6,r9,o7] <;> omega) | assumption) only [b4I,e,a7l,b6y,U0,U6,J6,I4,K3,J4,X4,V.e1g,Q9,Q7,a7u,G5,F9,z8,M8,Y5,a0D,K8,M5,V8,H9,I6,K9,M0,O6,S9,J5,J7,G8,U5,Q0,R3]
   exact H6.done ⟨rfl,fun j hj=>by simp (config:={ maxSteps:=10000000 }) (disch:=first | assumption | omega | (simp only [l9,w9,F3,j6,A8,E8,D8,I5,G9,I9,I8,H7,o9,D5,G8,Nat.reduceAdd,D7,E9,Nat.reduceBEq,G5,F9,d9,j5,l6,z8,D9,F7,F5,F4,G6,C8,q9,A9,q8,l8,l7,E5,C9,G7,IntKind.bits,D6,r9,o7] <;> omega) | assumption) only [F6]⟩
 | some q=>
   rw [hf] at e
   simp (config:={ maxSteps:=10000000 }) (disch:=first | assumption | omega | (simp only [l9,w9,F3,j6,A8,E8,D8,I5,G9,I9,I8,H7,o9,D5,G8,Nat.reduceAdd,D7,E9,Nat.reduceBEq,G5,F9,d9,j5,l6,z8,D9,F7,F5,F4,G6,C8,q9,A9,q8,l8,l7,E5,C9,G7,IntKind.bits,D6,r9,o7] <;> omega) | assumption) only [b4I,e,a7l,b0N,U0,U6,J6,I4,K3,J4,X4,V.e1g,Q9,Q7,a7u,G5,F9,z8,M8,Y5,a0D,K8,M5,V8,H9,I6,K9,M0,O6,S9,J5,J7,G8,U5,Q0,R3]
   exact H6.done ⟨rfl,fun j hj=>by simp (config:={ maxSteps:=10000000 }) (disch:=first | assumption | omega | (simp only [l9,w9,F3,j6,A8,E8,D8,I5,G9,I9,I8,H7,o9,D5,G8,Nat.reduceAdd,D7,E9,Nat.reduceBEq,G5,F9,d9,j5,l6,z8,D9,F7,F5,F4,G6,C8,q9,A9,q8,l8,l7,E5,C9,G7,IntKind.bits,D6,r9,o7] <;> omega) | assumption) only [F6]⟩
theorem t46 (N:Nat) (call:o8) (h97:∀ n,call 97 [.int .i64 n]=M.pure (.ret (a7l (a0z n a0j)))) (z:Int):a2T (b4F H8 N call (.int .i64 z)) (.int .i64 (.ofNat (a0n z))):=by
 intro c h r w
 unfold a0n
 have e:=h97 z
 cases hf:a0z z a0j with
 | none=>
   rw [hf] at e
   simp (config:={ maxSteps:=10000000 }) (disch:=first | assumption | omega | (simp only [l9,w9,F3,j6,A8,E8,D8,I5,G9,I9,I8,H7,o9,D5,G8,Nat.reduceAdd,D7,E9,Nat.reduceBEq,G5,F9,d9,j5,l6,z8,D9,F7,F5,F4,G6,C8,q9,A9,q8,l8,l7,E5,C9,G7,IntKind.bits,D6,r9,o7] <;> omega) | assumption) only [b4F,e,a7l,b6y,U0,U6,J6,I4,K3,J4,X4,V.e1g,Q9,Q7,a7u,G5,F9,z8,M8,Y5,a0D,K8,M5,V8,H9,I6,K9,M0,O6,S9,J5,J7,G8,U5,Q0,R3]
   exact H6.done ⟨rfl,fun j hj=>by simp (config:={ maxSteps:=10000000 }) (disch:=first | assumption | omega | (simp only [l9,w9,F3,j6,A8,E8,D8,I5,G9,I9,I8,H7,o9,D5,G8,Nat.reduceAdd,D7,E9,Nat.reduceBEq,G5,F9,d9,j5,l6,z8,D9,F7,F5,F4,G6,C8,q9,A9,q8,l8,l7,E5,C9,G7,IntKind.bits,D6,r9,o7] <;> omega) | assumption) only [F6]⟩
 | some q=>
   rw [hf] at e
   simp (config:={ maxSteps:=10000000 }) (disch:=first | assumption | omega | (simp only [l9,w9,F3,j6,A8,E8,D8,I5,G9,I9,I8,H7,o9,D5,G8,Nat.reduceAdd,D7,E9,Nat.reduceBEq,G5,F9,d9,j5,l6,z8,D9,F7,F5,F4,G6,C8,q9,A9,q8,l8,l7,E5,C9,G7,IntKind.bits,D6,r9,o7] <;> omega) | assumption) only [b4F,e,a7l,b0N,U0,U6,J6,I4,K3,J4,X4,V.e1g,Q9,Q7,a7u,G5,F9,z8,M8,Y5,a0D,K8,M5,V8,H9,I6,K9,M0,O6,S9,J5,J7,G8,U5,Q0,R3]
   exact H6.done ⟨rfl,fun j hj=>by simp (config:={ maxSteps:=10000000 }) (disch:=first | assumption | omega | (simp only [l9,w9,F3,j6,A8,E8,D8,I5,G9,I9,I8,H7,o9,D5,G8,Nat.reduceAdd,D7,E9,Nat.reduceBEq,G5,F9,d9,j5,l6,z8,D9,F7,F5,F4,G6,C8,q9,A9,q8,l8,l7,E5,C9,G7,IntKind.bits,D6,r9,o7] <;> omega) | assumption) only [F6]⟩
theorem t57 (N:Nat) (call:o8) (h97:∀ n,call 97 [.int .i64 n]=M.pure (.ret (a7l (a0z n a0j)))) (z:Int):a2T (b4Q H8 N call (.int .i64 z)) (.bool (a2q z)):=by
 intro c h r w
 unfold a2q
 have e:=h97 z
 cases hf:a0z z a0j with
 | none=>
   rw [hf] at e
   simp (config:={ maxSteps:=10000000 }) (disch:=first | assumption | omega | (simp only [l9,w9,F3,j6,A8,E8,D8,I5,G9,I9,I8,H7,o9,D5,G8,Nat.reduceAdd,D7,E9,Nat.reduceBEq,G5,F9,d9,j5,l6,z8,D9,F7,F5,F4,G6,C8,q9,A9,q8,l8,l7,E5,C9,G7,IntKind.bits,D6,r9,o7] <;> omega) | assumption) only [b4Q,e,a7l,b6y,U0,U6,J6,I4,K3,J4,V.e1g,Q9,a7u,G5,F9,z8,Y5,a0D,M5,V8,H9,I6,K9,M0,U5,Q0,R3]
   exact H6.done ⟨rfl,fun j hj=>by simp (config:={ maxSteps:=10000000 }) (disch:=first | assumption | omega | (simp only [l9,w9,F3,j6,A8,E8,D8,I5,G9,I9,I8,H7,o9,D5,G8,Nat.reduceAdd,D7,E9,Nat.reduceBEq,G5,F9,d9,j5,l6,z8,D9,F7,F5,F4,G6,C8,q9,A9,q8,l8,l7,E5,C9,G7,IntKind.bits,D6,r9,o7] <;> omega) | assumption) only [F6]⟩
 | some q=>
   rw [hf] at e
   simp (config:={ maxSteps:=10000000 }) (disch:=first | assumption | omega | (simp only [l9,w9,F3,j6,A8,E8,D8,I5,G9,I9,I8,H7,o9,D5,G8,Nat.reduceAdd,D7,E9,Nat.reduceBEq,G5,F9,d9,j5,l6,z8,D9,F7,F5,F4,G6,C8,q9,A9,q8,l8,l7,E5,C9,G7,IntKind.bits,D6,r9,o7] <;> omega) | assumption) only [b4Q,e,a7l,b0N,U0,U6,J6,I4,K3,J4,V.e1g,Q9,a7u,G5,F9,z8,Y5,a0D,M5,V8,H9,I6,K9,M0,U5,Q0,R3]
   exact H6.done ⟨rfl,fun j hj=>by simp (config:={ maxSteps:=10000000 }) (disch:=first | assumption | omega | (simp only [l9,w9,F3,j6,A8,E8,D8,I5,G9,I9,I8,H7,o9,D5,G8,Nat.reduceAdd,D7,E9,Nat.reduceBEq,G5,F9,d9,j5,l6,z8,D9,F7,F5,F4,G6,C8,q9,A9,q8,l8,l7,E5,C9,G7,IntKind.bits,D6,r9,o7] <;> omega) | assumption) only [F6]⟩
theorem L0:Shelf' Tryz.prog R4 (V6 mL) NN a0E b0Z:=⟨b0i,c2I⟩
theorem d8d:Y4 Tryz.prog R4 (V6 mL) 86 (X1 .i64 (fun z=>some (.bool (idxB z)))):=a6t a2m a0w L0 Tryz.func86 (by kernel_rfl) rfl fun z v h=>by
 cases h
 exact ⟨rfl, 1,by rw [a2H (q:=b8y) (N:=NN) (by kernel_rfl) 0]; exact a2T.pure (t86 _ _ z)⟩
theorem e0e:Y4 Tryz.prog R4 (V6 mL) 59 (X1 .i64 (fun z=>some (.bool (idxB z)))):=a6t a2m a0w L0 Tryz.func59 (by kernel_rfl) rfl fun z v h=>by
 cases h
 exact ⟨rfl, 1,by rw [a2H (q:=b8H) (N:=NN) (by kernel_rfl) 0]; exact a2T.pure (t59 _ _ z)⟩
theorem d9z:Y4 Tryz.prog R4 (V6 mL) 88 (X1 .i64 (fun z=>some (.bool (a2E z)))):=a6t a2m a0w L0 Tryz.func88 (by kernel_rfl) rfl fun z v h=>by
 cases h
 exact ⟨rfl, 1,by rw [a2H (q:=b7X) (N:=NN) (by kernel_rfl) 0]; exact a2T.pure (t88 _ _ z)⟩
theorem d5M:Y4 Tryz.prog R4 (V6 mL) 61 (X1 .i64 (fun z=>some (.bool (a2E z)))):=a6t a2m a0w L0 Tryz.func61 (by kernel_rfl) rfl fun z v h=>by
 cases h
 exact ⟨rfl, 1,by rw [a2H (q:=b9g) (N:=NN) (by kernel_rfl) 0]; exact a2T.pure (t61 _ _ z)⟩
theorem d5K:Y4 Tryz.prog R4 (V6 mL) 54 (X1 .i64 (fun z=>some (.bool (a2E z)))):=a6t a2m a0w L0 Tryz.func54 (by kernel_rfl) rfl fun z v h=>by
 cases h
 exact ⟨rfl, 1,by rw [a2H (q:=b7N) (N:=NN) (by kernel_rfl) 0]; exact a2T.pure (t54 _ _ z)⟩
theorem d7r:Y4 Tryz.prog R4 (V6 mL) 40 (X1 .i64 (fun z=>some (.string ⟨⟨a1Q z⟩⟩))):=a6t a2m a0w L0 Tryz.func40 (by kernel_rfl) rfl fun z v h=>by
 cases h
 exact ⟨rfl, 1,by rw [a2H (q:=b7i) (N:=NN) (by kernel_rfl) 0]; exact a2T.pure (t40 _ _ z)⟩
theorem d4l:Y4 Tryz.prog R4 (V6 mL) 43 (X1 .i64 (fun z=>some (.string ⟨⟨bcase (decide (z=3)) [102, 117, 110, 99] [101, 120, 116, 101, 114, 110]⟩⟩))):=a6t a2m a0w L0 Tryz.func43 (by kernel_rfl) rfl fun z v h=>by
 cases h
 exact ⟨rfl, 1,by rw [a2H (q:=b6D) (N:=NN) (by kernel_rfl) 0]; exact a2T.pure (t43 _ _ z)⟩
theorem c8M {z:Int} {v:Value} (h:q25 z=some v):∃ m:Nat,z=.ofNat m∧m<18446744073709551616∧v=.string ⟨⟨Lib.decDigits m⟩⟩:=by
 unfold q25 at h
 split at h
 · rename_i m
   obtain ⟨h1,rfl⟩:=a2K h
   exact ⟨m,rfl,by simpa [Nat.blt_eq] using h1,rfl⟩
 · cases h
theorem c4z (m:Nat) (h:m<18446744073709551616):q25 (.ofNat m)=some (.string ⟨⟨Lib.decDigits m⟩⟩):=by
 show bcase (Nat.blt m 18446744073709551616) _ none=_
 rw [H9 h]; rfl
theorem d8M:Y4 Tryz.prog R4 (V6 mL) 25 (X1 .u64 q25):=a6t a2m a0w L0 Tryz.func25 (by kernel_rfl) rfl fun z v h=>by
 obtain ⟨m,rfl,hm,rfl⟩:=c8M h
 exact ⟨rfl, 20,a2T.pure (t25 NN b0Z (by kernel_rfl) 19 m (by omega) hm)⟩
noncomputable def e1:Nat→Option (List Value→M Value):=(a0m (a0m (a0m (a0m (a0m (a0m (a0m (a0m (a0m (a0m (a0m (a0m (a0m a0E 127 (b0k (a3Q a0j) 125 3)) 35 (X1 .i64 (fun z=>some (.string ⟨⟨V4 z⟩⟩)))) 37 (fun bs=>M.lift (b2q bs))) 95 (fun bs=>M.lift (a9Z bs))) 126 (fun bs=>M.lift (a5K bs))) 25 (X1 .u64 q25)) 86 (X1 .i64 (fun z=>some (.bool (idxB z))))) 59 (X1 .i64 (fun z=>some (.bool (idxB z))))) 88 (X1 .i64 (fun z=>some (.bool (a2E z))))) 61 (X1 .i64 (fun z=>some (.bool (a2E z))))) 54 (X1 .i64 (fun z=>some (.bool (a2E z))))) 40 (X1 .i64 (fun z=>some (.string ⟨⟨a1Q z⟩⟩)))) 43 (X1 .i64 (fun z=>some (.string ⟨⟨bcase (decide (z=3)) [102, 117, 110, 99] [101, 120, 116, 101, 114, 110]⟩⟩))))
noncomputable def s1:a1N:=(a1O (a1O (a1O (a1O (a1O (a1O (a1O (a1O (a1O (a1O (a1O (a1O (a1O b0Z 127 (b0k (a3Q a0j) 125 3)) 35 (X1 .i64 (fun z=>some (.string ⟨⟨V4 z⟩⟩)))) 37 (fun bs=>M.lift (b2q bs))) 95 (fun bs=>M.lift (a9Z bs))) 126 (fun bs=>M.lift (a5K bs))) 25 (X1 .u64 q25)) 86 (X1 .i64 (fun z=>some (.bool (idxB z))))) 59 (X1 .i64 (fun z=>some (.bool (idxB z))))) 88 (X1 .i64 (fun z=>some (.bool (a2E z))))) 61 (X1 .i64 (fun z=>some (.bool (a2E z))))) 54 (X1 .i64 (fun z=>some (.bool (a2E z))))) 40 (X1 .i64 (fun z=>some (.string ⟨⟨a1Q z⟩⟩)))) 43 (X1 .i64 (fun z=>some (.string ⟨⟨bcase (decide (z=3)) [102, 117, 110, 99] [101, 120, 116, 101, 114, 110]⟩⟩))))
theorem L1:Shelf' Tryz.prog R4 (V6 mL) NN e1 s1:=(((((((((((((L0.add c5y).add d6A).add c6q).add c2o).add b9S).add d8M).add d8d).add e0e).add d9z).add d5M).add d5K).add d7r).add d4l)
end Go.Proofs.YtmomonnlmbljoaaGreatDoor
end
