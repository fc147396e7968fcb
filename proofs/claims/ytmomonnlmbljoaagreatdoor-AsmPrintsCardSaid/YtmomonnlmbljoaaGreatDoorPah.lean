import Derived.Laws.BytesString
import Derived.Test.YtmomonnlmbljoaaGreatDoorPag
section
namespace Go.V
open Go.RowKit (Below)
theorem b0W (k:IntKind) (M H:Int) (hM:(2 ^ k.bits:Int)=M) (hH:(2 ^ (k.bits - 1):Int)=H) (hs:k.signed=true) (hMH:M=2 * H) (m:Nat) (h:(m:Int)<H) :
 k.wrap (-((m:Int)+1))=-((m:Int)+1):=by
 unfold IntKind.wrap
 rw [hM,hH,hs]
 have e:(-((m:Int)+1)) % M=-((m:Int)+1)+M:=by
  rw [← Int.add_emod_right]
  exact Int.emod_eq_of_lt (by omega) (by omega)
 rw [e]
 simp only [Bool.true_and,decide_eq_true_eq]
 rw [if_pos (by omega)]
 omega
theorem a5p (k:IntKind) (n:Int):a0H k n=k.wrap n:=by
 cases n with
 | ofNat m=>
   show (match Nat.blt m (G7 k) with | true=>Int.ofNat m | false=>k.wrap (.ofNat m))=_
   cases h:Nat.blt m (G7 k) with
   | false=>rfl
   | true=>
     have hm:m<G7 k:=by simpa [Nat.blt_eq] using h
     show Int.ofNat m=k.wrap (Int.ofNat m)
     simp only [Int.ofNat_eq_natCast]
     cases k <;> simp only [G7] at hm <;> simp only [IntKind.wrap,IntKind.bits,IntKind.signed,Int.reducePow,Nat.reduceSub,Bool.true_and,Bool.false_and,decide_eq_true_eq,ge_iff_le,Bool.false_eq_true,if_false] <;> (try split) <;> omega
 | negSucc m=>
   show (match k.signed && Nat.blt m (G7 k) with | true=>Int.negSucc m | false=>k.wrap (.negSucc m))=_
   cases h:k.signed && Nat.blt m (G7 k) with
   | false=>rfl
   | true=>
     simp only [Bool.and_eq_true] at h
     have hm:m<G7 k:=by simpa [Nat.blt_eq] using h.2
     have hs:=h.1
     show Int.negSucc m=k.wrap (Int.negSucc m)
     rw [Int.negSucc_eq]
     symm
     cases k with
     | i8=>exact b0W .i8 256 128 rfl rfl rfl rfl m (by have hm:m<128:=hm; omega)
     | i16=>exact b0W .i16 65536 32768 rfl rfl rfl rfl m (by have hm:m<32768:=hm; omega)
     | i32=>exact b0W .i32 4294967296 2147483648 rfl rfl rfl rfl m (by have hm:m<2147483648:=hm; omega)
     | i64=>exact b0W .i64 18446744073709551616 9223372036854775808 rfl rfl rfl rfl m (by have hm:m<9223372036854775808:=hm; omega)
     | _=>cases hs
theorem a7y:∀ (x y:List UInt8),a7q x y=Op.bytesLess x y:=by
 intro x
 induction x with
 | nil=>intro y; cases y <;> rfl
 | cons a x ih=>
   intro y
   cases y with
   | nil=>rfl
   | cons b y=>
     show (match Nat.blt a.toNat b.toNat with | true=>true | false=>match Nat.beq a.toNat b.toNat with | true=>a7q x y | false=>false)=(decide (a<b) || (a == b && Op.bytesLess x y))
     rw [ih]
     by_cases h:a<b
     · have:Nat.blt a.toNat b.toNat=true:=by rw [Nat.blt_eq]; exact UInt8.lt_iff_toNat_lt.1 h
       rw [this]; simp [h]
     · have h1:Nat.blt a.toNat b.toNat=false:=by
        cases q:Nat.blt a.toNat b.toNat with
        | false=>rfl
        | true=>rw [Nat.blt_eq] at q; exact absurd (UInt8.lt_iff_toNat_lt.2 q) h
       rw [h1]
       by_cases h2:a=b
       · subst h2; simp
       · have h3:Nat.beq a.toNat b.toNat=false:=by
          cases q:Nat.beq a.toNat b.toNat with
          | false=>rfl
          | true=>exact absurd (UInt8.toNat_inj.1 (Nat.eq_of_beq_eq_true q)) h2
         rw [h3]; simp [h,h2]
section
variable {P:Program} {T:Tab} {B0:Nat} {w0:Base} {w:World} {K:KM} {s s':S} {a:Act} {fr:List Value} {v:Value}
theorem c4c {op:BinOp} {k:IntKind} {n m:Int} (h:b2p op k n m=some v) (t:TypeId) (w:World):(binOp op t (.int k n) (.int k m)).run P w=.ok v w:=by
 cases op <;> first
  | (cases h; done)
  | (cases h; simp [binOp,Op.intArith,Op.intCmp,a5p]; done)
  | (cases h; simp [binOp,Op.intCmp]; rfl)
theorem a6q {k k':IntKind} (h:a2G k k'=true):k=k':=by cases k <;> cases k' <;> first | rfl | cases h
theorem b9h (k:IntKind) (m:Nat):a9p k m=min m k.bits:=by
 unfold a9p
 cases hb:Nat.ble m k.bits with
 | true=>have:=Nat.le_of_ble_eq_true hb; simp only; omega
 | false=>
   have:¬ m≤k.bits:=fun q=>by rw [Nat.ble_eq_true_of_le q] at hb; cases hb
   simp only; omega
theorem b6I {op:BinOp} {k k':IntKind} {n m:Nat} (h:a5Z op k n m=some v) (t:TypeId) (w:World):(binOp op t (.int k (.ofNat n)) (.int k' (.ofNat m))).run P w=.ok v w:=by
 have hneg:¬ (Int.ofNat m<0):=by simp
 have htn:(Int.ofNat m).toNat=m:=rfl
 cases op with
 | shl=>
   cases h
   show (Op.shift .shl k (.ofNat n) k' (.ofNat m)).run P w=_
   unfold Op.shift
   rw [if_neg hneg]
   simp only [htn,Sem.run_pure,a5p,b9h]
   have:(Int.ofNat n * 2 ^ min m k.bits:Int)=Int.ofNat (Nat.mul n (Nat.pow 2 (min m k.bits))):=by
    show ((n:Int) * 2 ^ min m k.bits:Int)=((n * 2 ^ min m k.bits:Nat):Int)
    push_cast; rfl
   rw [this]
 | shr=>
   cases h
   show (Op.shift .shr k (.ofNat n) k' (.ofNat m)).run P w=_
   unfold Op.shift
   rw [if_neg hneg]
   simp only [htn,Sem.run_pure,b9h]
   have:(Int.ofNat n).fdiv (2 ^ min m k.bits)=Int.ofNat (Nat.div n (Nat.pow 2 (min m k.bits))):=by
    show ((n:Int)).fdiv (2 ^ min m k.bits)=((n / 2 ^ min m k.bits:Nat):Int)
    have:(2 ^ min m k.bits:Int)=((2 ^ min m k.bits:Nat):Int):=by push_cast; rfl
    rw [this]
    exact (Int.ofNat_fdiv n _).symm
   rw [this]
 | _=>cases h
theorem c3H {op:BinOp} {k:IntKind} {n m:Nat} (h:b5X op k n m=some v) (t:TypeId) (w:World):(binOp op t (.int k (.ofNat n)) (.int k (.ofNat m))).run P w=.ok v w:=by
 have hbv:∀ n:Nat,(BitVec.ofInt k.bits (Int.ofNat n)).toNat=n % 2 ^ k.bits:=fun n=>by
  show (BitVec.ofInt k.bits ((n:Nat):Int)).toNat=_
  rw [BitVec.ofInt_natCast,BitVec.toNat_ofNat]
 cases op with
 | quo=>
   cases m with
   | zero=>cases h
   | succ m=>
     cases h
     show (if k≠k then _ else Op.intDiv .quo k (.ofNat n) (.ofNat (m+1))).run P w=_
     rw [if_neg (by simp)]
     unfold Op.intDiv
     rw [if_neg (show ¬ Int.ofNat (m+1)=0 from fun q=>by cases q)]
     simp only [Sem.run_pure,a5p]
     rfl
 | rem=>
   cases m with
   | zero=>cases h
   | succ m=>
     cases h
     show (if k≠k then _ else Op.intDiv .rem k (.ofNat n) (.ofNat (m+1))).run P w=_
     rw [if_neg (by simp)]
     unfold Op.intDiv
     rw [if_neg (show ¬ Int.ofNat (m+1)=0 from fun q=>by cases q)]
     rfl
 | and=>
   cases h
   show (if k≠k then _ else Op.intBits .and k (.ofNat n) (.ofNat m)).run P w=_
   rw [if_neg (by simp)]
   unfold Op.intBits
   simp only [Sem.run_pure,a5p,BitVec.toNat_and,hbv]
   rfl
 | or=>
   cases h
   show (if k≠k then _ else Op.intBits .or k (.ofNat n) (.ofNat m)).run P w=_
   rw [if_neg (by simp)]
   unfold Op.intBits
   simp only [Sem.run_pure,a5p,BitVec.toNat_or,hbv]
   rfl
 | xor=>
   cases h
   show (if k≠k then _ else Op.intBits .xor k (.ofNat n) (.ofNat m)).run P w=_
   rw [if_neg (by simp)]
   unfold Op.intBits
   simp only [Sem.run_pure,a5p,BitVec.toNat_xor,hbv]
   rfl
 | _=>cases h
theorem b4e {f:Nat→Nat→Option Value} {a b:Int} (h:a6H f a b=some v):∃ n m,a=.ofNat n∧b=.ofNat m∧f n m=some v:=by
 unfold a6H at h
 cases a with
 | ofNat n=>cases b with
   | ofNat m=>exact ⟨n,m,rfl,rfl,h⟩
   | negSucc m=>cases h
 | negSucc n=>cases h
theorem b3L {op:BinOp} {k k':IntKind} {n m:Int} (h:a5a op k k' n m=some v) (t:TypeId) (w:World):(binOp op t (.int k n) (.int k' m)).run P w=.ok v w∧plain v=true:=by
 have pl:∀ {o:BinOp} {a b:Nat} {u:Value},a5Z o k a b=some u→plain u=true:=fun {o a b u} q=>by cases o <;> first | (cases q; rfl) | cases q
 have pl2:∀ {o:BinOp} {a b:Nat} {u:Value},b5X o k a b=some u→plain u=true:=fun {o a b u} q=>by
  cases o with
  | quo=>cases b with
    | zero=>cases q
    | succ b=>cases q; rfl
  | rem=>cases b with
    | zero=>cases q
    | succ b=>cases q; rfl
  | and=>cases q; rfl
  | or=>cases q; rfl
  | xor=>cases q; rfl
  | _=>cases q
 have pl3:∀ {o:BinOp} {a b:Int} {u:Value},b2p o k a b=some u→plain u=true:=fun {o a b u} q=>by cases o <;> first | (cases q; rfl) | cases q
 unfold a5a at h
 cases h1:a6H (a5Z op k) n m with
 | some u=>
   rw [h1] at h
   cases h
   obtain ⟨a,b,rfl,rfl,q⟩:=b4e h1
   exact ⟨b6I q t w,pl q⟩
 | none=>
   rw [h1] at h
   simp only at h
   cases hk:a2G k k' with
   | false=>rw [hk] at h; cases h
   | true=>
     rw [hk] at h
     have:=a6q hk
     subst this
     simp only at h
     cases h2:b2p op k n m with
     | some u=>rw [h2] at h; cases h; exact ⟨c4c h2 t w,pl3 h2⟩
     | none=>
       rw [h2] at h
       simp only at h
       obtain ⟨a,b,rfl,rfl,q⟩:=b4e h
       exact ⟨c3H q t w,pl2 q⟩
theorem b9X {op:BinOp} {t:TypeId} {x y:Operand} {k k':IntKind} {n m:Int} (w:World):(eqGuard op t x y (.int k n) (.int k' m)).run P w=.ok () w:=by
 unfold eqGuard
 split <;> rfl
theorem c0g {op:BinOp} {t:TypeId} {x y:Operand} {p q:ByteArray} (w:World):(eqGuard op t x y (.string p) (.string q)).run P w=.ok () w:=by
 unfold eqGuard
 split <;> rfl
theorem c4n {op:BinOp} {x y:ByteArray} (h:b2t op x.data.toList y.data.toList=some v) (t:TypeId) (w:World):(binOp op t (.string x) (.string y)).run P w=.ok v w:=by
 have hx:x.toList=x.data.toList:=ByteArray.toList_eq x
 have hy:y.toList=y.data.toList:=ByteArray.toList_eq y
 cases op with
 | add=>
   have h':(match Nat.blt (L9 x.data.toList+L9 y.data.toList) a6r with | true=>fList (M4 x.data.toList y.data.toList) fun l=>some (Value.string ⟨⟨l⟩⟩) | false=>none)=some v:=h
   rw [a2R] at h'
   split at h'
   · rename_i hb
     cases h'
     have hb:x.size+y.size<4294967296:=by
      have:L9 x.data.toList+L9 y.data.toList<a6r:=by simpa [Nat.blt_eq] using hb
      rw [Z5,Z5] at this
      exact this
     have hm:¬ (((x.size+y.size:Nat):Int) > IntKind.i64.max):=by
      have:IntKind.i64.max=9223372036854775807:=rfl
      rw [this]; omega
     show (Op.stringOp .add x y).run P w=_
     unfold Op.stringOp
     simp only [if_neg hm,Sem.run_pure]
     congr 2
     rw [N9]
     have:(x ++ y).data=x.data ++ y.data:=by simp
     cases hxy:x ++ y with
     | mk d=>
       rw [hxy] at this
       have this':d=x.data ++ y.data:=this
       rw [this']
       congr 1
       apply Array.ext'
       simp
   · cases h'
 | eql=>cases h; show (Op.stringOp .eql x y).run P w=_; simp [Op.stringOp,hx,hy,a5k]
 | neq=>cases h; show (Op.stringOp .neq x y).run P w=_; simp [Op.stringOp,hx,hy,a5k]
 | lss=>cases h; show (Op.stringOp .lss x y).run P w=_; simp [Op.stringOp,hx,hy,a7y]
 | leq=>cases h; show (Op.stringOp .leq x y).run P w=_; simp [Op.stringOp,hx,hy,a7y,a5k]
 | gtr=>cases h; show (Op.stringOp .gtr x y).run P w=_; simp [Op.stringOp,hx,hy,a7y,a5k]
 | geq=>cases h; show (Op.stringOp .geq x y).run P w=_; simp [Op.stringOp,hx,hy,a7y]
 | _=>cases h
end
end Go.V
end
section
namespace Go.V
open Go.RowKit (Below)
section
variable {P:Program} {T:Tab} {B0:Nat} {w0:Base} {w:World} {K:KM} {s s':S} {a:Act} {fr:List Value} {v:Value}
theorem a9v {o:Option Value} (h:pureV o s=some (v,s')):∃ z,o=some z∧a0e 3 z=true∧v=z∧s'=s:=by
 obtain ⟨z,hz,h1⟩:=U2 h
 obtain ⟨hg,h2⟩:=U1 h1
 obtain ⟨rfl,rfl⟩:=J8 h2
 exact ⟨v,hz,hg,rfl,rfl⟩
theorem b3w {d:TypeDesc} {x' x:Value} {p:Bool} (h:a5u d x=some p) (r:VR K x' x):a5u d x'=some p:=by
 cases r with
 | plain _=>exact h
 | ptr _ _=>cases d <;> first | exact h | cases h
 | slice _ _ _ _ _ _=>cases d <;> first | exact h | cases h
 | map _=>cases d <;> first | exact h | cases h
 | agg _ _=>cases d <;> cases h
 | tuple _ _=>cases d <;> cases h
 | func _ _ _ _=>cases d <;> first | exact h | cases h
 | iface _=>cases d <;> first | exact h | cases h
theorem c3o (hT:TabOk P T) {t:TypeId} {d:TI} (hd:T.types.get t=some d) {x y:Value} {p q:Bool} (h1:a5u d.und x=some p) (h2:a5u d.und y=some q) (h3:(p || q)=true) (w:World) :
 (Op.equal t x y).run P w=.ok (p && q) w:=by
 have hu:=a2f hT hd w
 unfold Op.equal Op.maxDepth Op.equalIn
 simp only [Sem.run_bind,hu,Result.andThen_ok]
 generalize d.und=u at *
 cases u with
 | pointer e=>
   cases x with
   | pointer o1=>
     cases y with
     | pointer o2=>
       cases o1 <;> cases o2 <;> cases h1 <;> cases h2 <;> first | rfl | cases h3
     | _=>cases h2
   | _=>cases h1
 | slice e=>
   cases x with
   | slice o1 _ _=>
     cases y with
     | slice o2 _ _=>
       cases o1 <;> cases o2 <;> cases h1 <;> cases h2 <;> first | rfl | cases h3
     | _=>cases h2
   | _=>cases h1
 | map e f=>
   cases x with
   | map o1=>
     cases y with
     | map o2=>
       cases o1 <;> cases o2 <;> cases h1 <;> cases h2 <;> first | rfl | cases h3
     | _=>cases h2
   | _=>cases h1
 | func e f g=>
   cases x <;> first | (cases h1; done) | (cases y <;> first | (cases h2; done) | (cases h1; cases h2; first | rfl | cases h3))
 | interface e=>
   cases x <;> first | (cases h1; done) | (cases y <;> first | (cases h2; done) | (cases h1; cases h2; first | rfl | cases h3))
 | _=>cases h1
theorem b9Y {d:TypeDesc} {x y:Value} {p q:Bool} (h1:a5u d x=some p) (h2:a5u d y=some q) (t:TypeId) :
 binOp .eql t x y=(do pure (.bool (← Op.equal t x y)))∧binOp .neq t x y=(do pure (.bool (!(← Op.equal t x y)))):=by
 cases x <;> first
  | (cases d <;> cases h1; done)
  | (cases y <;> first | (cases d <;> cases h2; done) | exact ⟨rfl,rfl⟩)
theorem b5Q {d:TypeDesc} {x y:Value} {p q:Bool} {op:BinOp} {X Y:Operand} (h1:a5u d x=some p) (h2:a5u d y=some q) (hc:(isConstO X || isConstO Y)=true) (t:TypeId) (w:World) :
 (eqGuard op t X Y x y).run P w=.ok () w:=by
 cases op <;> first
  | rfl
  | (cases x <;> first
      | (cases d <;> cases h1; done)
      | (cases y <;> first
          | (cases d <;> cases h2; done)
          | rfl
          | (cases X <;> cases Y <;> first | rfl | (cases hc; done))))
theorem c7U (hT:TabOk P T) {t:TypeId} {d:TI} {op:BinOp} {X Y:Operand} (hop:c5Q op=true) (hd:T.types.get t=some d) {x y:Value} {p q:Bool} (h1:a5u d.und x=some p) (h2:a5u d.und y=some q) (h3:(p || q)=true)
 (hc:(isConstO X || isConstO Y)=true) (w:World):(do eqGuard op t X Y x y; binOp op t x y).run P w=.ok (.bool (b2O op (p && q))) w:=by
 obtain ⟨b1,b2⟩:=b9Y h1 h2 t
 have he:=c3o hT hd h1 h2 h3 w
 simp only [Sem.run_bind,b5Q h1 h2 hc t w,Result.andThen_ok]
 cases op <;> first
  | (cases hop; done)
  | (rw [b1]; simp [he,b2O]; done)
  | (rw [b2]; simp [he,b2O]; done)
theorem c4K (hT:TabOk P T) {op:BinOp} {t:TypeId} {X Y:Operand} {x y x' y':Value} (h:a8x P T op t X Y x y s=some (v,s')) (rx:VR K x' x) (ry:VR K y' y) (w:World) :
 ∃ v',(do eqGuard op t X Y x' y'; binOp op t x' y').run P w=.ok v' w∧VR K v' v∧s'=s:=by
 unfold a8x at h
 cases hn:b0t T op t X Y x y with
 | some r=>
   rw [hn] at h
   obtain ⟨rfl,rfl⟩:=J8 h
   unfold b0t at hn
   split at hn
   · rename_i hc
     simp only [Bool.and_eq_true] at hc
     split at hn
     · rename_i d hd
       split at hn
       · rename_i p hp
         split at hn
         · rename_i q hq
           split at hn
           · rename_i hpq
             cases hn
             exact ⟨_,c7U hT hc.1 hd (b3w hp rx) (b3w hq ry) hpq hc.2 w,.plain rfl,rfl⟩
           · cases hn
         · cases hn
       · cases hn
     · cases hn
   · cases hn
 | none=>
   rw [hn] at h
   obtain ⟨hg,h1⟩:=U1 h
   obtain ⟨z,hz,hna,rfl,rfl⟩:=a9v h1
   simp only [Bool.and_eq_true] at hg
   rw [rx.eq_of_noAddr 8 hg.1,ry.eq_of_noAddr 8 hg.2]
   exact ⟨v,a7c hz w,a2O _ _ hna,rfl⟩
theorem d1y (hT:TabOk P T) {op:BinOp} {t:TypeId} {x y:Operand} (h:b3u P T fr op t x y s=some (v,s')) (S:Sim B0 w0 K s.h w) (hf:VRL K a.tmps.toList fr) (hg:GK T K) :
 a0x P B0 w0 K s' (do pure (Next.value (← (do eqGuard op t x y (a.eval x) (a.eval y); binOp op t (a.eval x) (a.eval y))))) w v:=by
 obtain ⟨vx,e1,h1⟩:=a2r h
 obtain ⟨vy,e2,h2⟩:=a2r h1
 have rx:=a0k hf hg e1
 have ry:=a0k hf hg e2
 have hbin:a8x P T op t x y vx vy s=some (v,s')→a0x P B0 w0 K s' (do pure (Next.value (← (do eqGuard op t x y (a.eval x) (a.eval y); binOp op t (a.eval x) (a.eval y))))) w v:=by
  intro hb
  obtain ⟨v',q1,q2,rfl⟩:=c4K hT hb rx ry w
  exact a0x.quiet S rfl q1 q2
 cases vx with
 | int k n=>
   cases vy with
   | int k' m=>
     have h3:(match a5a op k k' n m with | some v=>M.pure v | none=>a8x P T op t x y (.int k n) (.int k' m)) s=some (v,s'):=h2
     cases hi:a5a op k k' n m with
     | none=>rw [hi] at h3; exact hbin h3
     | some z=>
       rw [hi] at h3
       obtain ⟨rfl,rfl⟩:=J8 h3
       have ex:=rx.eq_of_plain rfl
       have ey:=ry.eq_of_plain rfl
       refine a0x.quiet S rfl (v':=v) ?_ (.plain (b3L (P:=P) hi t w).2)
       rw [ex,ey]
       simp only [Sem.run_bind,b9X,Result.andThen_ok,(b3L hi t w).1]
   | _=>exact absurd h2 (by intro q; cases q)
 | string p=>
   cases vy with
   | string q=>
     have h3:M.lift (b2t op p.data.toList q.data.toList) s=some (v,s'):=h2
     obtain ⟨h4,rfl⟩:=a6a h3
     have ex:=rx.eq_of_plain rfl
     have ey:=ry.eq_of_plain rfl
     refine a0x.quiet S rfl (v':=v) ?_ ?_
     · rw [ex,ey]
       simp only [Sem.run_bind,c0g,Result.andThen_ok,c4n h4]
     · refine .plain ?_
       cases op <;> first
        | (cases h4; done)
        | (have h5:(match Nat.blt (L9 p.data.toList+L9 q.data.toList) a6r with | true=>fList (M4 p.data.toList q.data.toList) fun l=>some (Value.string ⟨⟨l⟩⟩) | false=>none)=some v:=h4
           rw [a2R] at h5
           split at h5 <;> cases h5
           rfl)
        | (cases h4; rfl)
   | _=>exact absurd h2 (by intro q; cases q)
 | _=>exact hbin h2
theorem e0c {op:UnOp} {x:Operand} (h:b8F P T fr op x s=some (v,s')) (S:Sim B0 w0 K s.h w) (hf:VRL K a.tmps.toList fr) (hg:GK T K) :
 a0x P B0 w0 K s' (do pure (Next.value (← Op.unary op (a.eval x)))) w v:=by
 obtain ⟨vx,e1,h1⟩:=a2r h
 obtain ⟨hgd,h2⟩:=U1 h1
 obtain ⟨z,hz,hna,rfl,rfl⟩:=a9v h2
 have ex:=(a0k hf hg e1).eq_of_plain hgd
 rw [ex]
 exact a0x.quiet S rfl (a7c hz w) (a2O _ _ hna)
theorem c5I (hT:TabOk P T) {t:TypeId} {x y:Operand} (h:b0j T fr t x y s=some (v,s')) (S:Sim B0 w0 K s.h w) (hf:VRL K a.tmps.toList fr) (hg:GK T K) :
 a0x P B0 w0 K s' (do pure (Next.value (← Instr.index t (a.eval x) (a.eval y)))) w v:=by
 obtain ⟨vx,e1,h1⟩:=a2r h
 obtain ⟨vy,e2,h2⟩:=a2r h1
 obtain ⟨j,hj,h3⟩:=U2 h2
 obtain ⟨d,hd,h4⟩:=a1H h3
 obtain ⟨k,rfl⟩:=a7t hj
 have ey:=(a0k hf hg e2).eq_of_plain rfl
 have rx:=a0k hf hg e1
 generalize hu:d.und=u at h4
 cases u with
 | string=>
   cases vx with
   | string b=>
     obtain ⟨c,hc,h5⟩:=U2 h4
     obtain ⟨rfl,rfl⟩:=J8 h5
     have ex:=rx.eq_of_plain rfl
     rw [a4v] at hc
     have hc':b[j]?=some c:=by
      have hlt:j<b.data.toList.length:=(List.getElem?_eq_some_iff.1 hc).1
      have hlt':j<b.size:=hlt
      rw [getElem?_pos b j hlt']
      rw [List.getElem?_eq_getElem hlt] at hc
      exact hc
     refine a0x.quiet S rfl (v':=a7D c) ?_ (.plain rfl)
     rw [ex,ey]
     simp only [Instr.index,Sem.run_bind,asIntOf,Sem.run_pure,Result.andThen_ok,a2f hT hd,hu]
     simp [hc',a7D]
   | _=>exact absurd h4 (by intro q; cases q)
 | array len elem=>
   cases vx with
   | agg cs=>
     obtain ⟨e,he,h5⟩:=a1H h4
     obtain ⟨hlt,h6⟩:=U1 h5
     obtain ⟨cs',ex,r⟩:=c3I rx
     obtain ⟨u',q1,q2,rfl⟩:=b8q hT h6 r w
     have hlt:j<len:=by simpa [Nat.blt_eq] using hlt
     refine a0x.quiet S rfl ?_ q2
     rw [ex,ey]
     simp only [Instr.index,Sem.run_bind,asIntOf,Sem.run_pure,Result.andThen_ok,a2f hT hd,hu]
     simp [hlt,a2P hT he] at q1 ⊢
     exact q1
   | _=>exact absurd h4 (by intro q; cases q)
 | _=>exact absurd h4 (by intro q; cases q)
theorem b1y:∀ (vs:List Value) (bs:List UInt8),b2b vs=some bs→∃ ns:List Int,vs=ns.map (fun n=>Value.int .u8 n)∧bs=ns.map fun n=>UInt8.ofNat n.toNat
 | [],bs,h=>by cases h; exact ⟨[],rfl,rfl⟩
 | v::vs,bs,h=>by
   have h':(match b4X v with | none=>none | some b=>(match b2b vs with | some bs=>some (b::bs) | none=>none))=some bs:=h
   cases hb:b4X v with
   | none=>rw [hb] at h'; cases h'
   | some b=>
     rw [hb] at h'
     cases hr:b2b vs with
     | none=>rw [hr] at h'; cases h'
     | some bs1=>
       rw [hr] at h'
       cases h'
       obtain ⟨ns,e1,e2⟩:=b1y vs bs1 hr
       cases v with
       | int k n=>
         cases k with
         | u8=>cases hb; exact ⟨n::ns,by rw [e1]; rfl,by rw [e2]; rfl⟩
         | _=>cases hb
       | _=>cases hb
theorem c2O (ns:List Int):∀ (acc:ByteArray),ns.foldl (fun r n=>r.push (UInt8.ofNat n.toNat)) acc=⟨⟨acc.data.toList ++ ns.map fun n=>UInt8.ofNat n.toNat⟩⟩:=by
 induction ns with
 | nil=>intro acc; simp
 | cons n ns ih=>
   intro acc
   simp only [List.foldl_cons,ih,List.map_cons]
   congr 2
   simp [ByteArray.push]
theorem c1z (hT:TabOk P T) {src dst:TypeId} {x:Operand} (h:a8i T fr src dst x s=some (v,s')) (S:Sim B0 w0 K s.h w) (F:a2C K s s') (hf:VRL K a.tmps.toList fr) (hg:GK T K) :
 a0x P B0 w0 K s' (do pure (Next.value (← convert src dst (a.eval x)))) w v:=by
 obtain ⟨vx,e1,h1⟩:=a2r h
 obtain ⟨sd,hs,h2⟩:=a1H h1
 obtain ⟨dd,hd,h3⟩:=a1H h2
 have rx:=a0k hf hg e1
 have us:=fun w=>a2f (P:=P) hT hs w
 have ud:=fun w=>a2f (P:=P) hT hd w
 generalize hu:dd.und=u at h3 ud
 cases u with
 | int k=>
   cases vx with
   | int k' n=>
     obtain ⟨rfl,rfl⟩:=J8 h3
     have ex:=rx.eq_of_plain rfl
     refine a0x.quiet S rfl (v':=.int k (k.wrap n)) ?_ (by rw [a5p]; exact .plain rfl)
     rw [ex]
     simp [convert,us,ud,Conv.intToInt]
   | _=>exact absurd h3 (by intro q; cases q)
 | slice e=>
   cases vx with
   | string b=>
     obtain ⟨i,hi,h4⟩:=a1H h3
     obtain ⟨hgd,h5⟩:=U1 h4
     obtain ⟨ad,s1,h6,h7⟩:=O7 h5
     obtain ⟨rfl,rfl⟩:=J8 h7
     have ex:=rx.eq_of_plain rfl
     simp only [Bool.and_eq_true,Z5] at hgd
     have hlen:b.data.toList.length=b.size:=rfl
     have hby:i.und=.int .u8:=by
      have:=hgd.1
      cases hiu:i.und with
      | int k=>cases k <;> first | rfl | (rw [hiu] at this; cases this)
      | _=>rw [hiu] at this; cases this
     rw [a3I] at h6
     have hv:VRL K (b.data.toList.map a7D) (b.data.toList.map a7D):=VRL.refl_plain _ (fun y hy=>by obtain ⟨z,_,rfl⟩:=List.mem_map.1 hy; rfl)
     let cap:=(Question.appendCap b.size 0 e).cut (w.tape w.drawn (Question.appendCap b.size 0 e))
     have hcap:b.size≤cap:=by show b.size≤b.size+_ % _; exact Nat.le_add_right _ _
     let arr:Array Value:=b.data.map (fun x=>Value.int .u8 x.toNat) ++ Array.replicate (cap - b.size) (.int .u8 0)
     have harr:arr.toList=b.data.toList.map a7D ++ List.replicate (cap - b.size) (.int .u8 0):=by
      simp only [arr,Array.toList_append,Array.toList_map,Array.toList_replicate]; rfl
     have hasz:arr.size=cap:=by
      rw [← Array.length_toList,harr]; simp; show b.size+(cap - b.size)=cap; omega
     let w1:World:=(w.drew.alloc (.cells arr e))
     let w2:World:=w1.freeze { block:=w.heap.size,off:=arr.size } 1
     have hblk:w2.heap[w.heap.size]?=some (.cells arr e (arr.size,arr.size+1)):=by
      show ((w.heap.push (.cells arr e (0, 0))).modify w.heap.size _)[w.heap.size]?=_
      rw [Array.getElem?_modify,if_pos rfl,Array.getElem?_push_size]; rfl
     have G:Grew w w2:=by
      refine ⟨rfl,rfl,rfl, ?_, ?_⟩
      · show w.heap.size≤((w.heap.push (.cells arr e (0, 0))).modify w.heap.size _).size
        simp
      · intro k hk
        show ((w.heap.push (.cells arr e (0, 0))).modify w.heap.size _)[k]?=_
        rw [Array.getElem?_modify,if_neg (by omega),Array.getElem?_push,if_neg (by omega)]
     obtain ⟨K',k1,k2,rfl⟩:=a6A (w':=w2) (arr:=arr) (e:=e) h6 S F hv G hblk harr (fun o ho=>by dsimp only; omega)
     refine a0x.step (v':=.slice (some ⟨w.heap.size, 0,none⟩) b.size cap) (w':=w2) ?_ k1 ?_
     · rw [ex]
       have ue:=fun w=>a2f (P:=P) hT hi w
       rw [hby] at ue
       simp only [convert,Sem.run_bind,us,ud,Result.andThen_ok]
       cases sd.und <;> (
        simp only [Sem.run_bind,ue,Result.andThen_ok,Conv.stringToBytes,run_choose,Question.forced,Bool.false_eq_true,if_false,newRow,run_newObj,Sem.run_pure,markStringish,run_shape]
        simp only [World.shape?,Array.getElem?_push_size]
        rfl)
     · rw [Z5]
       refine VR.slice (off:=0) k2 (Nat.zero_le _) (by omega) hcap (Or.inr rfl) (Or.inr ⟨rfl,rfl,fun _=>?_⟩)
       dsimp only
       rw [hasz]; omega
   | _=>exact absurd h3 (by intro q; cases q)
 | string=>
   cases vx with
   | string b=>
     obtain ⟨rfl,rfl⟩:=J8 h3
     have ex:=rx.eq_of_plain rfl
     refine a0x.quiet S rfl (v':=.string b) ?_ (.plain rfl)
     rw [ex]
     simp only [convert,Sem.run_bind,us,ud,Result.andThen_ok]
     cases sd.und <;> rfl
   | int k n=>
     obtain ⟨rfl,rfl⟩:=J8 h3
     have ex:=rx.eq_of_plain rfl
     refine a0x.quiet S rfl (v':=.string (Utf8.encode n)) ?_ (.plain rfl)
     rw [ex]
     simp only [convert,Sem.run_bind,us,ud,Result.andThen_ok]
     cases sd.und <;> rfl
   | slice o len es=>
     generalize hsu:sd.und=su at h3 us
     cases su with
     | slice e=>
       obtain ⟨_,h4⟩:=U1 h3
       obtain ⟨i,hi,h5⟩:=a1H h4
       obtain ⟨hgd,h6⟩:=U1 h5
       obtain ⟨vs,s1,h7,h8⟩:=O7 h6
       obtain ⟨bs,hbs,h9⟩:=U2 h8
       obtain ⟨rfl,rfl⟩:=J8 h9
       obtain ⟨n,vs',c1,c2,c3,c4,c5,c6⟩:=b3k (P:=P) h7 (by omega) S rx
       have hby:i.und=.int .u8:=by
        cases hiu:i.und with
        | int k=>cases k <;> first | rfl | (rw [hiu] at hgd; cases hgd)
        | _=>rw [hiu] at hgd; cases hgd
       have ue:=fun w=>a2f (P:=P) hT hi w
       rw [hby] at ue
       obtain ⟨ns,e2,e3⟩:=b1y vs bs hbs
       have hvs:vs'=ns.map (fun n=>Value.int .u8 n):=by
        apply List.ext_getElem?
        intro j
        rw [← e2]
        cases hj:vs[j]? with
        | none=>rw [List.getElem?_eq_none (by rw [c3.len]; exact List.getElem?_eq_none_iff.1 hj)]
        | some z=>
          obtain ⟨z',q1,q2⟩:=c3.get? hj
          rw [q1]
          have:z∈ns.map (fun n=>Value.int .u8 n):=by rw [← e2]; exact List.mem_of_getElem? hj
          obtain ⟨m,_,rfl⟩:=List.mem_map.1 this
          rw [q2.eq_of_plain rfl]
       refine a0x.quiet S c5 (v':=.string ⟨⟨bs⟩⟩) ?_ (.plain rfl)
       have hconv:(convert src dst (a.eval x)).run P w=(Conv.bytesToString (a.eval x)).run P w:=by
        rcases a5s rx with ⟨_,ad',cap,_,p2,_⟩ | ⟨_,_,_,p4⟩
        · rw [p2]; simp only [convert,Sem.run_bind,us,ud,Result.andThen_ok,ue]
        · rw [p4]; simp only [convert,Sem.run_bind,us,ud,Result.andThen_ok,ue]
       rw [hconv]
       rcases a5s rx with ⟨_,ad',cap,_,p2,_⟩ | ⟨_,_,_,p4⟩
       · rw [p2] at c1 c2 ⊢
         have hn:n=len:=by have:=c1 w; simp [Builtin.lenOf] at this; exact this.symm
         have hl:(loadCells ad' len).run P w=.ok ((ns.map (fun n=>Value.int .u8 n)).toArray) w:=by
          have:=c2 w (fun _=>rfl)
          rw [hvs,hn] at this
          simpa [Builtin.firstCells] using this
         rw [run_bytesToString w ad' len cap ns hl,c2O,e3]
         simp
       · rw [p4] at c1 c2 ⊢
         have hn:n=0:=by have:=c1 w; simp [Builtin.lenOf] at this; exact this.symm
         have:vs'=[]:=List.eq_nil_of_length_eq_zero (by rw [c4,hn])
         rw [this] at hvs
         have hns:ns=[]:=by cases ns with
          | nil=>rfl
          | cons=>simp at hvs
         rw [e3,hns]
         rfl
     | _=>exact absurd h3 (by intro q; cases q)
   | _=>cases hq:sd.und <;> rw [hq] at h3 <;> exact absurd h3 (by intro q; cases q)
 | _=>exact absurd h3 (by intro q; cases q)
theorem c2e (hT:TabOk P T) {b:Builtin} {args:Array Operand} {ts:Array TypeId} {ty:TypeId} {consts:Array Bool} (h:a8p P T fr b args ts s=some (v,s')) (S:Sim B0 w0 K s.h w) (F:a2C K s s') (hf:VRL K a.tmps.toList fr) (hg:GK T K) :
 a0x P B0 w0 K s' (builtin b ts ty consts (args.map a.eval)) w v:=by
 obtain ⟨vs,e1,h1⟩:=a6Q h
 have r:=a6y hf hg e1
 have hargs:args.map a.eval=(args.toList.map a.eval).toArray:=by apply Array.ext'; simp
 rw [hargs]
 cases b with
 | append=>
   obtain ⟨hlen2,h2⟩:=U1 h1
   rw [Z5] at hlen2
   obtain ⟨v',w',K',q1,q2,q3⟩:=c1U (ty:=ty) hT (by rw [r.len]; exact Nat.eq_of_beq_eq_true hlen2) h2 S F r
   exact a0x.step q1 q2 q3
 | len=>
   obtain ⟨t,e2,h2⟩:=U2 h1
   obtain ⟨d,hd,h3⟩:=a1H h2
   obtain ⟨x,e3,h4⟩:=U2 h3
   rw [a4v,a6R] at e2
   rw [a4v] at e3
   obtain ⟨x',e4,rx⟩:=r.get? e3
   have e4':(args.toList.map a.eval).toArray[0]?=some x':=by simpa using e4
   have hu:=a2f (P:=P) hT hd w
   have hlen:∃ n,(Builtin.len_ ts ty (args.toList.map a.eval).toArray).run P w=.ok (goInt n) w∧v=goInt n∧s'.h=s.h:=by
    unfold Builtin.len_
    simp only [e2,e4']
    simp only [Sem.run_bind,hu,Result.andThen_ok]
    unfold c6f at h4
    generalize d.und=u at *
    cases u with
    | array n e=>
      obtain ⟨rfl,rfl⟩:=J8 h4
      exact ⟨n,rfl,rfl,rfl⟩
    | string=>
      cases x with
      | string p=>
        obtain ⟨rfl,rfl⟩:=J8 h4
        rw [rx.eq_of_plain rfl]
        exact ⟨p.size,rfl,by rw [Z5]; rfl,rfl⟩
      | _=>exact absurd h4 (by intro q; cases q)
    | slice e=>
      cases x with
      | slice o n es=>
        obtain ⟨rfl,rfl⟩:=J8 h4
        rcases a5s rx with ⟨_,ad',cap,_,p2,_⟩ | ⟨_,p2,_,p4⟩
        · rw [p2]; exact ⟨n,rfl,rfl,rfl⟩
        · rw [p4,p2]; exact ⟨0,rfl,rfl,rfl⟩
      | _=>exact absurd h4 (by intro q; cases q)
    | map k e=>
      obtain ⟨es,s1,h5,h6⟩:=O7 h4
      obtain ⟨rfl,rfl⟩:=J8 h6
      obtain ⟨c1,c2,c3⟩:=a9I h5 S rx
      rcases c3 with ⟨q1,rfl⟩ | ⟨b,l,es',clock,_,q2,q3,q4,q5,q6,q7⟩
      · rw [q1]; exact ⟨0,rfl,rfl,c1⟩
      · rw [q2]
        simp only [Sem.run_bind,a6T q6 (by intro c e f q; cases q),Result.andThen_ok,Sem.run_pure]
        exact ⟨es'.size,rfl,by rw [Z5, ← q7.len]; simp,c1⟩
    | _=>exact absurd h4 (by intro q; cases q)
   obtain ⟨n,q1,rfl,q3⟩:=hlen
   exact a0x.quiet S q3 q1 (.plain rfl)
 | max=>
   obtain ⟨hp,h2⟩:=U1 h1
   obtain ⟨z,hz,hna,rfl,rfl⟩:=a9v h2
   have hvs:args.toList.map a.eval=vs:=by
    apply List.ext_getElem?
    intro i
    cases hi:vs[i]? with
    | none=>exact List.getElem?_eq_none (by rw [r.len]; exact List.getElem?_eq_none_iff.1 hi)
    | some y=>
      obtain ⟨y',q1,q2⟩:=r.get? hi
      rw [q1,q2.eq_of_plain ((a0y _ _).1 hp _ (List.mem_of_getElem? hi))]
   rw [hvs]
   exact a0x.quiet S rfl (a7c hz w) (a2O _ _ hna)
 | min=>
   obtain ⟨hp,h2⟩:=U1 h1
   obtain ⟨z,hz,hna,rfl,rfl⟩:=a9v h2
   have hvs:args.toList.map a.eval=vs:=by
    apply List.ext_getElem?
    intro i
    cases hi:vs[i]? with
    | none=>exact List.getElem?_eq_none (by rw [r.len]; exact List.getElem?_eq_none_iff.1 hi)
    | some y=>
      obtain ⟨y',q1,q2⟩:=r.get? hi
      rw [q1,q2.eq_of_plain ((a0y _ _).1 hp _ (List.mem_of_getElem? hi))]
   rw [hvs]
   exact a0x.quiet S rfl (a7c hz w) (a2O _ _ hna)
 | _=>exact absurd h1 (by intro q; cases q)
theorem b7U (hT:TabOk P T) {o:Oper} (h:a7S P T fr o.op s=some (v,s')) (S:Sim B0 w0 K s.h w) (F:a2C K s s') (hf:VRL K a.tmps.toList fr) (hg:GK T K) :
 a0x P B0 w0 K s' (execOp a.eval o) w v:=by
 obtain ⟨dst,op,type,pos,after,guard⟩:=o
 cases op with
 | move x=>exact c0N h S hf hg
 | assign x=>exact c0N h S hf hg
 | pick c x y=>exact c9u h S hf hg
 | alloc t=>exact c5D hT h S F
 | box t x=>exact d1H h S F hf hg
 | build t ps=>exact c6p hT h S hf hg
 | buildSlice t len ps=>exact b5K hT h S F hf hg
 | load t x=>exact c8i hT h S hf hg
 | store t x y=>exact c5B hT h S hf hg
 | nilCheck x=>exact c0f rfl h S hf hg
 | binOp op t x y yt=>exact d1y hT h S hf hg
 | unOp op t x=>exact e0c h S hf hg
 | convert x y z=>exact c1z hT h S F hf hg
 | makeInterface t x=>exact c5s hT h S hf hg
 | makeFunc fn x y=>exact c8N h S hf hg
 | makeMap t r=>exact d1b hT h S F hf hg
 | makeSlice t x y=>exact c8E hT h S F hf hg
 | slice t x lo hi mx=>exact c5o hT h S hf hg
 | fieldAddr t x f=>exact b8h hT h S hf hg
 | field t x f=>exact c5X hT h S hf hg
 | indexAddr t x i=>exact b8x hT h S hf hg
 | index t x i=>exact c5I hT h S hf hg
 | lookup t x i ok=>exact c3C hT h S hf hg
 | mapUpdate t m k x=>exact b5H hT h S hf hg
 | insert t m k x=>exact b5H hT h S hf hg
 | range t x=>exact c4U hT h S F hf hg
 | next x str=>exact c9l h S hf hg
 | extract x i=>exact c1E h S hf hg
 | _=>exact absurd h (by intro q; cases q)
end
end Go.V
end
