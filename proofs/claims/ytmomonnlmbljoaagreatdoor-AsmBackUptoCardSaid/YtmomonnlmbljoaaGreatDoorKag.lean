import Derived.Test.YtmomonnlmbljoaaGreatDoorProg
import Derived.Test.YtmomonnlmbljoaaGreatDoorKae
import Derived.Test.YtmomonnlmbljoaaGreatDoorKaf
set_option maxRecDepth 1000000
set_option maxHeartbeats 4000000
set_option linter.unusedVariables false
set_option linter.unusedSimpArgs false
noncomputable section
namespace Go.V
def go {α:Type}(m:M α)(s:S):Option (α×S):=m s
def R6 {α β:Type}(x:Option (α×S))(f:α->M β):Option (β×S):=match x with|none=>none|some y=>go (f y.1) y.2
theorem J8 {α β}(m)(f:α->M β)(s):go (M.bind m f) s=R6 (go m s) f:=wH rfl rfl
theorem J5 {α β}(a s)(f:α->M β):R6 (some (a,s)) f=go (f a) s:=wH rfl rfl
theorem b1S {α β}(f:α->M β):R6 none f=none:=wH rfl rfl
theorem y8 {α β x y}(f:α->M β)(h:x=y):R6 x f=R6 y f:=by rw[h]
theorem x9 {α b b'}(x y:α)(h:b=b'):bcase b x y=bcase b' x y:=by rw[h]
theorem Z8 {α}(a:α)(s):go (M.pure a) s=some (a,s):=wH rfl rfl
theorem b0d {α}(s):go (M.fail:M α) s=none:=wH rfl rfl
theorem b8t {α}(a:α)(s):go (M.lift (some a)) s=some (a,s):=wH rfl rfl
theorem I8 {β}(v)(kn kp:Value->M β):a1B (.ret v) kn kp=kn v:=wH rfl rfl
theorem a2z {β}(b)(x y:M β)(s):go (bcase b x y) s=bcase b (go x s) (go y s):=zi
theorem a5G {β}(b)(a a':β)(c h r r' w w'):bcase b (some (a,(⟨c,h,r,w⟩:S))) (some (a',⟨c,h,r',w'⟩))=some (bcase b a a',⟨c,h,bcase b r r',bcase b w w'⟩):=zi
theorem a0q {α}(b)(x:α):bcase b x x=x:=zi
theorem a7I (k n):(Value.int k n).cells.toList=[.int k n]:=wH rfl rfl
theorem a6E (b):(Value.bool b).cells.toList=[.bool b]:=wH rfl rfl
theorem a3S (s):(Value.string s).cells.toList=[.string s]:=wH rfl rfl
theorem a4P (a n e):(Value.slice a n e).cells.toList=[.slice a n e]:=wH rfl rfl
theorem a4p (a):(Value.pointer a).cells.toList=[.pointer a]:=wH rfl rfl
theorem a5r (f a b):(Value.func f a b).cells.toList=[.func f a b]:=wH rfl rfl
theorem a2G (l):(Value.agg ⟨l⟩).cells.toList=l:=wH rfl rfl
theorem b0h (k n):N8 (.int k n)=true:=wH rfl rfl
theorem a8P (b):N8 (.bool b)=true:=wH rfl rfl
theorem a5j (s):N8 (.string s)=true:=wH rfl rfl
theorem a7y (a n e):N8 (.slice a n e)=true:=wH rfl rfl
theorem a5B (a):N8 (.pointer a)=true:=wH rfl rfl
theorem a8O (f a b):N8 (.func f a b)=true:=wH rfl rfl
theorem a9D (k n):a8f (.int k (.ofNat n))=some n:=wH rfl rfl
theorem b7j (n):Nat.beq (n+1) 0=false:=wH rfl rfl
theorem b7e (n):Nat.beq 0 (n+1)=false:=wH rfl rfl
theorem b6k (n m):Nat.beq (n+1) (m+1)=Nat.beq n m:=wH rfl rfl
theorem c1Y (n m):Nat.ble (n+1) (m+1)=Nat.ble n m:=wH rfl rfl
theorem c3f (n):Nat.ble (n+1) 0=false:=wH rfl rfl
theorem Y2 (a b:Nat)(h:a≠b):Nat.beq a b=false:=a0x h
theorem a6l (a:Nat):Nat.ble a a=true:=uI (wP _)
def ldS {γ:Type}(lt:Bool)(ob:Option VObj)(o g n:Nat)(k:List Value->Option γ):Option γ:=match lt with
 |true=>match ob with
  |some (.cells cs _ _)=>match q9 g (G7 cs o) n with|some vs=>k vs|none=>none
  |_=>none
 |false=>none
def oS {α γ:Type}(x:Option α)(k:α->Option γ):Option γ:=match x with|some a=>k a|none=>none
theorem a1I {α γ}(a)(k:α->Option γ):oS (some a) k=k a:=wH rfl rfl
theorem C9 {α γ x y}(k:α->Option γ)(h:x=y):oS x k=oS y k:=by rw[h]
theorem a0c {γ}(cs cur ro o g n)(k:List Value->Option γ):ldS true (some (.cells cs cur ro)) o g n k=oS (q9 g (G7 cs o) n) k:=by grind[ldS,oS]
theorem C8 {γ lt lt' ob ob'}(o g n)(k:List Value->Option γ)(h1:lt=lt')(h2:ob=ob'):ldS lt ob o g n k=ldS lt' ob' o g n k:=by rw[h1,h2]
section
variable (c:Nat)(h:Trie VObj)(r w:List Nat)
theorem a1n (b o g n):go (loadN ⟨b,o,some g⟩ n) ⟨c,h,r,w⟩=ldS (Nat.blt b c) (h.get b) o g n λvs=>some (vs,⟨c,h,b::r,w⟩):=by unfold go loadN ldS;simp only[F6,V.M.bind,rd];cases Nat.blt b c with|false=>rfl|true=>cases h.get b with|none=>rfl|some ob=>cases ob with|cells cs cur ro=>simp only[a5w,M.lift];cases q9 g (G7 cs o) n<;>rfl|_=>rfl
theorem b8k {γ δ}(lt ob o g n k)(f:Option γ->Option δ)(hf:f none=none):f (ldS lt ob o g n k)=ldS lt ob o g n λvs=>f (k vs):=by unfold ldS;grind
theorem a2A (b o g):go (a7e (.pointer (some ⟨b,o,some g⟩))) ⟨c,h,r,w⟩=ldS (Nat.blt b c) (h.get b) o g 1 λvs=>some (D5 vs 0,⟨c,h,b::r,w⟩):=by unfold a7e;rw[a3G,J8,a1n];exact b8k _ _ _ _ _ _ (λx=>R6 x λvs=>M.pure (D5 vs 0)) rfl
theorem a6A (n b o g):go (b1A n (.pointer (some ⟨b,o,some g⟩))) ⟨c,h,r,w⟩=ldS (Nat.blt b c) (h.get b) o g n λvs=>some (.agg ⟨vs⟩,⟨c,h,b::r,w⟩):=by unfold b1A;rw[a3G,J8,a1n];exact b8k _ _ _ _ _ _ (λx=>R6 x λvs=>M.pure (Value.agg ⟨vs⟩)) rfl
def stS {γ:Type}(lt:Bool)(ob:Option VObj)(o g:Nat)(vs:List Value)(k:List (Value×Nat)->Nat->Bool->Option γ):Option γ:=match lt with
 |true=>match ob with
  |some (.cells cs cur ro)=>match Nat.beq g cur&& !ro&&J7 N8 vs&&Nat.ble (o+z8 vs) (z8 cs)with
   |true=>match a2h g vs cs o with|some cs'=>k cs' cur ro|none=>none
   |false=>none
  |_=>none
 |false=>none
theorem a4C {γ}(cs)(cur:Nat)(ro)(o g:Nat)(vs)(k:List (Value×Nat)->Nat->Bool->Option γ)(e:(Nat.beq g cur&& !ro&&J7 N8 vs&&Nat.ble (o+z8 vs) (z8 cs))=true):stS true (some (.cells cs cur ro)) o g vs k=oS (a2h g vs cs o) λcs'=>k cs' cur ro:=by grind[stS,oS]
theorem A9 {γ lt lt' ob ob'}(o g vs)(k:List (Value×Nat)->Nat->Bool->Option γ)(h1:lt=lt')(h2:ob=ob'):stS lt ob o g vs k=stS lt' ob' o g vs k:=by rw[h1,h2]
theorem d0s (b o g vs):go (storeN ⟨b,o,some g⟩ vs) ⟨c,h,r,w⟩=stS (Nat.blt b c) (h.get b) o g vs λcs' cur ro=>some ((),⟨c,upd h b (.cells cs' cur ro),b::r,b::w⟩):=by
 unfold storeN stS;simp only[F6];rw[J8];show R6 (rd b ⟨c,h,r,w⟩) _=_;rw[b3w];cases hb:Nat.blt b c with
  |false=>rfl|true=>
   cases ho:h.get b with
    |none=>rfl|some ob=>
     cases ob with
      |cells cs cur ro=>simp only[J5,a5w];cases Nat.beq g cur&& !ro&&J7 N8 vs&&Nat.ble (o+z8 vs) (z8 cs)with|false=>rfl|true=>simp only[P8];cases a2h g vs cs o with|none=>rfl|some cs'=>simp only[F6,Y3];show wr b _ _=_;rw[b1u,hb,ho]
      |_=>rfl
theorem a3U (n b o g:Nat)(v)(e2:(!(Nat.beq n 0)&&Nat.beq (z8 v.cells.toList) n)=true):go (a9C n (.pointer (some ⟨b,o,some g⟩)) v) ⟨c,h,r,w⟩=stS (Nat.blt b c) (h.get b) o g v.cells.toList λcs' cur ro=>some (undef,⟨c,upd h b (.cells cs' cur ro),b::r,b::w⟩):=by
 unfold a9C;rw[a3G,J8,e2,P8,d0s];generalize v.cells.toList=l;unfold stS;cases Nat.blt b c with
  |false=>rfl|true=>
   cases h.get b with
    |none=>rfl|some ob=>
     cases ob with
      |cells cs cur ro=>simp only;cases Nat.beq g cur&& !ro&&J7 N8 l&&Nat.ble (o+z8 l) (z8 cs)with|false=>rfl|true=>simp only;cases a2h g l cs o<;>rfl
      |_=>rfl
theorem a1U (vs)(e:J7 N8 vs=true):go (Y9 vs) ⟨c,h,r,w⟩=some (⟨c,0,some 0⟩,⟨c+1,upd h c (.cells (K4 (λv=>(v,0)) vs) 0 false),r,c::w⟩):=by unfold Y9;rw[e,P8,Y3,J8];show R6 (new _ _) _=_;rw[c5j];rfl
theorem b0q (zs)(e:J7 N8 zs=true):go (d2g zs) ⟨c,h,r,w⟩=some (.pointer (some ⟨c,0,some 0⟩),⟨c+1,upd h c (.cells (K4 (λv=>(v,0)) zs) 0 false),r,c::w⟩):=by unfold d2g;rw[J8,a1U c h r w zs e];rfl
theorem e2m (v l)(hv:v.cells.toList=l)(e:(J7 N8 l&& !(a2W l))=true):go (a8J v) ⟨c,h,r,w⟩=some (.pointer (some ⟨c,0,some 0⟩),⟨c+1,upd h c (.cells (K4 (λv=>(v,0)) l) 0 false),r,c::w⟩):=by rw[wI]at e;unfold a8J;rw[hv,e.2,P8,J8,a1U c h r w l e.1];rfl
theorem a1F (l)(e:(J7 N8 l&& !(a2W l))=true):go (a8J (.agg ⟨l⟩)) ⟨c,h,r,w⟩=some (.pointer (some ⟨c,0,some 0⟩),⟨c+1,upd h c (.cells (K4 (λv=>(v,0)) l) 0 false),r,c::w⟩):=e2m c h r w _ l rfl e
theorem a9P (n len os vs zs):go (b5M n len os vs zs) ⟨c,h,r,w⟩=oS (a5R os vs zs) λcs=>bcase (J7 N8 cs) (some (.slice (some ⟨c,0,some 0⟩) len n,⟨c+1,upd h c (.cells (K4 (λv=>(v,0)) cs) 0 false),r,c::w⟩)) none:=by unfold b5M;cases a5R os vs zs with|none=>rfl|some cs=>rw[F6,J8,a1I];cases e:J7 N8 cs with|true=>rw[a1U c h r w cs e];rfl|false=>show Go.V.R6 (Y9 cs ⟨c,h,r,w⟩) _=none;unfold Y9;rw[e];rfl
end
theorem a4r (os vs zs):d0c os vs zs=M.obind (a5R os vs zs) λcs=>M.pure (.agg ⟨cs⟩):=wH rfl rfl
theorem a9y (vs zs):a5R [] vs zs=some zs:=by cases vs<;>rfl
theorem a9S (q os v vs zs)(e:(Nat.beq (z8 v.cells.toList) q.2&&Nat.ble (q.1+q.2) (z8 zs))=true):a5R (q::os) (v::vs) zs=a5R os vs (a3h v.cells.toList zs q.1):=by show(match Nat.beq (z8 v.cells.toList) q.2&&Nat.ble (q.1+q.2) (z8 zs)with|true=>a5R os vs (a3h v.cells.toList zs q.1)|false=>none)=_;rw[e]
theorem b2i (vs c cs):a3h vs (c::cs) 0=a6t vs (c::cs):=wH rfl rfl
theorem b5x (vs c cs n):a3h vs (c::cs) (n+1)=c::a3h vs cs n:=wH rfl rfl
theorem a8p (cs):a6t [] cs=cs:=wH rfl rfl
theorem a7k (v vs c cs):a6t (v::vs) (c::cs)=v::a6t vs cs:=wH rfl rfl
theorem a5E (off b o g):xFA off (.pointer (some ⟨b,o,g⟩))=M.pure (.pointer (some ⟨b,o+off,g⟩)):=wH rfl rfl
theorem b5z (a):e3j (.pointer (some a))=M.pure (.pointer (some a)):=wH rfl rfl
theorem Q8 (a n e):b2F (.slice a n e)=M.pure (.int .i64 (.ofNat n)):=wH rfl rfl
theorem c1E (l off n):xFN off n (.agg ⟨l⟩)=M.pure (.agg ⟨a0B (G7 l off) n⟩):=wH rfl rfl
theorem b1V (fn va vb):d5w fn va vb=M.pure (.func fn ⟨va⟩ ⟨vb⟩):=wH rfl rfl
theorem a0Q (k k' n):c1j k (.int k' n)=M.pure (.int k (Q0 k n)):=wH rfl rfl
theorem a1x (n i len k b o g)(e:i<len)(e2:n≠0):a6U n (.slice (some ⟨b,o,g⟩) len n) (.int k (.ofNat i))=M.pure (.pointer (some ⟨b,o+i*n,g⟩)):=by unfold a6U elemAtN;simp only[a9D,F6,P9,P8,I1 e,a0x e2];rfl
theorem d1l (x y)(e:z8 x+z8 y<a4i):b4e .add x y=some (.string ⟨⟨E5 x y⟩⟩):=by show(match Nat.blt (z8 x+z8 y) a4i with|true=>fList (E5 x y) λl=>some (Value.string ⟨⟨l⟩⟩)|false=>none)=_;rw[I1 e];simp only[Y3]
section
variable (p:Program)(T:Tab)
theorem a7P (t x y s s'):a0L p T .eql t x y (.string s) (.string s')=M.pure (.bool (beqBytes s.data.toList s'.data.toList)):=wH rfl rfl
theorem O6 (t x y s s'):a0L p T .neq t x y (.string s) (.string s')=M.pure (.bool (!(beqBytes s.data.toList s'.data.toList))):=wH rfl rfl
theorem a2j (t x y s s')(e:z8 s.data.toList+z8 s'.data.toList<4294967296):a0L p T .add t x y (.string s) (.string s')=M.pure (.string ⟨⟨E5 s.data.toList s'.data.toList⟩⟩):=by show M.lift (b4e .add s.data.toList s'.data.toList)=_;rw[d1l _ _ e];rfl
end
end Go.V
namespace Go.V
theorem a4z {α}(l:List α)(a b):G7 l (a+b)=G7 (G7 l a) b:=by rw[a0z,a0z,a0z,oz]
theorem Y8 {σ}(body:σ->M (Xc×σ))(n x s):go (R7 body (n+1) x) s=R6 (go (body x) s) λr=>V3 r.1 (R7 body n r.2) (λid=>M.pure (.exit id,r.2)) (M.pure (.ret,r.2)) (λv=>M.pure (.pan v,r.2)):=wH rfl rfl
theorem l9.cases {α b}{x y:Option (α×S)}{Q}(h1:b=true->l9 x Q)(h2:b=false->l9 y Q):l9 (bcase b x y) Q:=by cases b with|true=>exact h1 rfl|false=>exact h2 rfl
theorem l9.bindS {α β:Type}{x:Option (α×S)}{f:α->M β}{P:α->S->Prop}{Q:β->S->Prop}(h:l9 x P)(k:∀a s',P a s'->l9 (go (f a) s') Q):l9 (R6 x f) Q:=by obtain⟨a,s',rfl,p⟩:=h;exact k a s' p
theorem l9.done {α}{a:α}{s Q}(h:Q a s):l9 (Option.some (a,s)) Q:=⟨a,s,rfl,h⟩
theorem c3Z {α β}(b x y)(f:α->M β):R6 (bcase b x y) f=bcase b (R6 x f) (R6 y f):=zi
theorem a1o:(!true)=false:=rfl
theorem a0M:(!false)=true:=rfl
theorem a8w (b:Bool):(b&&b)=b:=uX b
theorem a8D (b:Bool):(true&&b)=b:=uK b
theorem a3Z (b:Bool):(b&&true)=b:=sP b
theorem a8Q (n:Nat):0+n=n:=vY n
end Go.V
end
section
namespace Go.V
section
variable {P:Program}
theorem a3o {α β:Type}(x:Sem α)(f:α->Sem β):a0E P (x>>=f)=match a0E P x with|some a=>a0E P (f a)|none=>none:=by show a0E P (x.bind f)=_;induction x with|pure a=>rfl|program k ih=>exact ih P|mark m k ih=>exact ih|_=>rfl
theorem b1z {α}(a):a0E P (pure a:Sem α)=some a:=rfl
theorem b2V:a0E P program=some P:=rfl
theorem a9F {t d}(h:P.underlying t=some d):a0E P (underlying t)=some d:=by unfold underlying;rw[a3o,b2V];simp only[h];rfl
theorem c5o {t k}(h:P.underlying t=some (.int k))(cs off v)(hv:cs[off]?=some v):a0E P (part t cs off)=some v:=by grind[part,isAgg,a3o,a9F,b1z]
theorem d1V (d){t k' k}(h:P.underlying t=some (.int k'))(a b):a0E P (Op.equalIn (d+1) t (.int k a) (.int k b))=some (a==b):=by unfold Op.equalIn;rw[a3o,a9F h];simp;rfl
def a7A (P:Program):List Field->Nat->List Int->List Int->List Value->List Value->Prop|[],_,[],[],_,_=>True|f::fs,o,a::aS9,b::bs,xs,ys=>f.name≠ "_"/\f.offset=o/\(∃k',P.underlying f.type=some (.int k'))/\(∃k,xs[o]?=some (.int k a)/\ys[o]?=some (.int k b))/\a7A P fs (o+1) aS9 bs xs ys|_,_,_,_,_,_=>False
def a8r:List Int->List Int->Bool|a::aS9,b::bs=>decide (a=b)&&a8r aS9 bs|_,_=>true
theorem c4e (d){t fs}(ht:P.underlying t=some (.struct fs))(hp:P.stoodInHeld t=false)(xs ys aS9 bs)(h:a7A P fs.toList 0 aS9 bs xs ys):a0E P (Op.equalIn (d+2) t (.agg ⟨xs⟩) (.agg ⟨ys⟩))=some (a8r aS9 bs):=by
 unfold Op.equalIn;rw[a3o,a9F ht];simp only[];rw[a3o,b2V];simp only[hp,uo,tN];rw[a3o,<-Array.forIn_toList];generalize fs.toList=l at h⊢;clear ht;revert h;generalize 0=o;induction l generalizing o aS9 bs with
  |nil=>grind[b1z,a8r,a7A]|cons f l ih=>
   intro h;cases aS9 with
    |nil=>grind[a7A]|cons a aS9=>
     cases bs with
      |nil=>grind[a7A]|cons b bs=>
       obtain⟨h1,rfl,⟨k',h3⟩,⟨k,h4,h5⟩,h6⟩:=h;have i1:=ih aS9 bs _ h6;rw[List.forIn_cons,a3o,vG h1,a3o,c5o h3 ⟨xs⟩ f.offset _ (by simpa using h4)];simp only[a3o,c5o h3 ⟨ys⟩ f.offset _ (by simpa using h5),d1V d h3];by_cases hab:a=b;have e:(!a==b)=false:=by simp[hab]
       rw[vN (by rw[e];decide)];simp only[b1z];rw[i1];show some (a8r aS9 bs)=some (decide (a=b)&&a8r aS9 bs);rw[wJ hab,uK];have e:(!a==b)=true:=by simp[hab]
       rw[vG e];simp only[b1z];show some false=some (decide (a=b)&&a8r aS9 bs);rw[wL hab,uR]
theorem b7M (op t x y xs ys)(hm:P.eqGuardType P.depth t=false):a0E P (eqGuard op t x y (.agg xs) (.agg ys))=some ():=by cases op<;>simp only[eqGuard,uS,rz,uo,qD,tN,b1z,a3o,b2V,hm]<;>rfl
theorem c4n {T op}(hop:op=.eql\/op=.neq){t x y fs}(ht:P.underlying t=some (.struct fs))(hp:P.stoodInHeld t=false)(hm:P.eqGuardType P.depth t=false){xs ys}{aS9 bs}(h:a7A P fs.toList 0 aS9 bs xs ys)(hx:K5 8 (.agg ⟨xs⟩)=true)(hy:K5 8 (.agg ⟨ys⟩)=true)(hT:∀d,T.types.get t=some d->d.und=.struct fs):a0L P T op t x y (.agg ⟨xs⟩) (.agg ⟨ys⟩)=M.pure (.bool (b5y op (a8r aS9 bs))):=by
 have hn:b1O T op t x y (.agg ⟨xs⟩) (.agg ⟨ys⟩)=none:=by unfold b1O;cases d3A op&&(isConstO x||isConstO y)with|false=>rfl|true=>cases hd:T.types.get t with|none=>rfl|some d=>simp only[hT d hd];rfl
 have e:=c4e (P:=P) 9998 ht hp xs ys aS9 bs h;show a9H P T op t x y (.agg ⟨xs⟩) (.agg ⟨ys⟩)=_;unfold a9H;rw[hn];simp only[hx,hy,uX,P8];have k:a0E P (do eqGuard op t x y (.agg ⟨xs⟩) (.agg ⟨ys⟩);binOp op t (.agg ⟨xs⟩) (.agg ⟨ys⟩))=some (.bool (b5y op (a8r aS9 bs))):=by rw[a3o,b7M _ _ _ _ _ _ hm];rcases hop with rfl|rfl;simp only[binOp,Op.equal,Op.maxDepth];rw[a3o];rw[show(10000:Nat)=9998+2 from rfl,e];rfl;simp only[binOp,Op.equal,Op.maxDepth];rw[a3o];rw[show(10000:Nat)=9998+2 from rfl,e];rfl
 rw[k];rfl
end
end Go.V
end
noncomputable section
namespace Go.V
open Go.RowKit (Below)
section
variable {P:Program}{T:Tab}{vs:a2Q}
theorem c3y {f:Nat}{g:List Value->Option Value}(hg:∀aS9 v,g aS9=some v->J7 (K5 8) aS9=true/\K5 8 v=true/\∀w,(callFunc f aS9.toArray).run P w=.ok (.value v) w):K3 P T vs f (λaS9=>M.lift (g aS9)):=by refine⟨λaS9=>Fr.lift _,?_⟩;intro B0 w0 hL hB aS9 s v s' w K as' h S hG F has;obtain⟨e1,rfl⟩:=a3s h;obtain⟨g1,g2,g3⟩:=hg aS9 v e1;rw[a9M has g1];exact Or.inl ⟨v,w,K,g3 w,Step.same S rfl,a0V 8 v g2⟩
end
def b3v (bs:List Value):Option Value:=match bs with
 |[.int .u64 (.ofNat x),.int .u64 (.ofNat y),.int .u64 (.ofNat c)]=>match Nat.ble c 1 with|true=>some (.tuple ⟨[.int .u64 (.ofNat (Nat.mod (Nat.add (Nat.add x y) c) 18446744073709551616)),.int .u64 (.ofNat (Nat.div (Nat.add (Nat.add x y) c) 18446744073709551616))]⟩)|false=>none
 |_=>none
end Go.V
end
section
namespace Go.V
open Go.RowKit (Below)
section
variable {P:Program}{T:Tab}{vs:a2Q}
noncomputable def b1D (cs:List Value)(n e:Nat)(aS9:List Value):M Value:=match aS9 with|[]=>M.bind (Y9 cs) λa=>M.pure (.slice (some a) n e)|_::_=>M.fail
theorem c2l (hT:TabOk P T)(hM:P.follows .mixedOrders=true)(hng:T.ng<=vs.length)(hp:∀l∈vs,∀v∈l,plain v=true){ext}(hE:a2M P T vs ext){N}{sh}(hs:a7S P T ext N sh){k f}{fn}{c}{s2}{b2 g2 n e cur}{cs}(hPf:P.funcs[f]?=some fn)(hnum:(fn.name== "runtime.NumGoroutine")=false)(hb:fn.body=some c)(h:o9 sh k f [] (a3p vs)=some (.ret (.slice (some ⟨b2,0,some g2⟩) n e),s2))(hcs:s2.h.get b2=some (.cells cs cur false))(hpl:J7 (λx=>plain x.1&&Nat.ble x.2 g2) cs=true):K3 P T vs f (b1D (K4 (·.1) cs) n e):=by
 refine⟨λaS9=>?_,?_⟩;cases aS9 with|nil=>show Fr (M.bind (Y9 (K4 (·.1) cs)) λa=>M.pure (Value.slice (some a) n e));grind[Fr.bind,Fr.newCells,Fr.pure]|cons a aS9=>exact Fr.fail
 intro B0 w0 hL hB aS9 s v s1 w K as' hg S hG F has;cases aS9 with
  |cons a aS9=>cases hg|nil=>
   have hg':M.bind (Y9 (K4 (·.1) cs)) (λa=>M.pure (Value.slice (some a) n e)) s=some (v,s1):=hg;obtain⟨a,s1',q1,q2⟩:=D6 hg';obtain⟨rfl,rfl⟩:=x8 q2;have e0:as'=[]:=ug.1 (by rw[has.len];rfl);subst e0;have hLw:=hL.below S.below hB;have hE':=hE w.heap.size ⟨w,λ_=>True⟩ hLw hLw.size;refine Or.inr ⟨V5 hPf hnum hb,?_⟩;rcases b0U hT hM hE' hs k f [] (a3p vs) _ s2 w (a6a vs) [] h (b1b (λ_ _=>trivial) (λ_ _=>trivial) hLw hp) (b2m hng) (λi hi _=>by rw[a0K];have:vs.length<=i:=yC;rw[vg this]) (VRL.nil _)with⟨v1,v',w',K',_,q1,_⟩|⟨_,q⟩;rw[V5 hPf hnum hb]at q1;cases q1;refine q.mono λe1 w' hq=>?_;obtain⟨v',K2,e2,st,r⟩:=hq;refine⟨v',?_⟩;obtain⟨h1,h2,h3,h4⟩:=b0z q1;generalize hz:Value.slice (some ⟨b2,0,some g2⟩) n e=z at r;cases r with
    |plain hpp=>grind[V.plain]|slice hk l1 l2 l3 l4 l5=>
     cases hz;rename_i l a';have hown:l.own=true:=((st.sim.gens b2 cs cur false hcs).1 g2 l hk).2 rfl;have hblk:=st.sim.own b2 g2 l hk hown;have hlo:l.lo=0:=ou.1 l1;have G:Grew w w':=⟨st.sim.below.os,st.sim.below.tape,st.sim.below.output,st.sim.below.size,st.sim.below.block⟩;have hK:∀g,K s.c g=none:=S.none (F s.c (wP _) zy);have hsz:B0<=w.heap.size:=vR S.size0.1 S.below.size;refine⟨K.put s.c 0 l,e2,⟨KM.le_put K _ (hK 0),λi g hi=>KM.put_other K _ (λq=>zy),?_⟩,?_⟩;refine b8y (o:=.cells ((K4 (·.1) cs).map λv=>(v,0)) 0 false) (a6k S G) hK h4 (st.sim.dom b2 g2 l hk) (vR hsz hblk) hown (λb g l' q=>by have:=S.dom b g l' q;omega) ?_ (λes q=>ze) (λx pos q=>ze);intro cs' cur' ro' q;cases q;refine⟨rfl,rfl,λx hx=>?_,hlo,?_,?_⟩;grind;exact st.sim.room b2 g2 l cs cur false hk hown hcs;intro off v0 st0 q;rw[a0N,tq,vW]at q;cases hvo:cs[off]? with|none=>rw[hvo]at q;cases q|some y=>rw[hvo]at q;cases q;have hy:=(M5 _ _).1 hpl y (vT hvo);rw[wI]at hy;obtain⟨v1,c1,c2⟩:=st.sim.cells b2 cs cur false g2 l hcs hk off y.1 y.2 hvo (vU hy.2) zy;rw[c2.eq_of_plain hy.1]at c1;exact⟨y.1,by rw[hlo]at c1;exact c1,.plain hy.1⟩
     rw[h2];exact VR.slice (KM.put_same _ _ _ _) l1 l2 l3 l4 l5|_=>cases hz
theorem c3W {c m}:∀(n) (v),K5 n v=true->VRen c m v v:=by
 intro n;induction n with
  |zero=>intro v h;cases h|succ n ih=>
   intro v h;have key:∀l:List Value,J7 (K5 n) l=true->∀(i:Nat) (v w:Value),l[i]?=some v->l[i]?=some w->VRen c m v w:=λl hl i v w h1 h2=>by rw[h1]at h2;grind[M5]
   cases v with|agg cs=>exact .agg rfl (key _ h)|tuple cs=>exact .tuple rfl (key _ h)|iface t v=>exact .iface (ih v h)|_=>exact .plain h
theorem a7O (hT:TabOk P T)(hM:P.follows .mixedOrders=true){ext}(hE:a2M P T vs ext){N}{sh}(hs:a7S P T ext N sh){f}{fn}{cd}(hPf:P.funcs[f]?=some fn)(hnum:(fn.name== "runtime.NumGoroutine")=false)(hb:fn.body=some cd){g}(hFr:∀aS9,Fr (g aS9))(h:∀aS9 s v s1,g aS9 s=some (v,s1)->K5 8 v=true/\s1.c=s.c/\s1.h=s.h/\∀c,s.c<=c->∃n,l9 (go (o9 sh n f aS9) ⟨c,s.h,s.r,s.w⟩) λx s2=>x=.ret v/\∀i,i<c->s2.h.get i=s.h.get i):K3 P T vs f g:=by refine b5k hT hM hE hs hPf hnum hb hFr λaS9 s v s1 hg c' h1 h2 h3=>?_;obtain⟨q1,q2,q3,q4⟩:=h aS9 s v s1 hg;obtain⟨n,x,s2,e,rfl,hold⟩:=q4 c' h1;refine⟨n,v,s2,λ_=>none,e,⟨λi hi=>Or.inr ⟨by rw[q3],hold i hi.1⟩,λb b2 g2 hm=>(by cases hm),λb hb _=>?_,λb b' x x' hm=>(by cases hm)⟩,c3W 8 v q1,λi h1 h2=>hold i h2⟩;rw[q3];refine h3 b (oF λhlt=>hb ⟨hlt,λhx=>zy⟩)
theorem a2c (hT:TabOk P T)(hM:P.follows .mixedOrders=true){ext}(hE:a2M P T vs ext){N}{sh}(hs:a7S P T ext N sh){f}{fn}{cd}(hPf:P.funcs[f]?=some fn)(hnum:(fn.name== "runtime.NumGoroutine")=false)(hb:fn.body=some cd){g:List Value->Option Value}(h:∀aS9 v,g aS9=some v->K5 8 v=true/\∀c h r w,∃n,l9 (go (o9 sh n f aS9) ⟨c,h,r,w⟩) λx s2=>x=.ret v/\∀i,i<c->s2.h.get i=h.get i):K3 P T vs f (λaS9=>M.lift (g aS9)):=by refine a7O hT hM hE hs hPf hnum hb (λaS9=>Fr.lift _) λaS9 s v s1 hg=>?_;obtain⟨e,rfl⟩:=a3s hg;obtain⟨q1,q2⟩:=h aS9 v e;simp_all
theorem a4j {f}{g:List Value->Option Value}(h:∀aS9 v,g aS9=some v->J7 (K5 8) aS9=true/\K5 8 v=true/\a7g P vs f aS9 v):K3 P T vs f (λaS9=>M.lift (g aS9)):=by refine⟨λ_=>Fr.lift _,?_⟩;intro B0 w0 hL hB aS9 s v s' w K as' hg S hG F has;obtain⟨e1,e2⟩:=a3s hg;obtain⟨t1,t2,t3⟩:=h aS9 v e1;rw[a9M has t1];obtain⟨c1,c2⟩:=t3 w (hL.below S.below hB);refine Or.inr ⟨c1,c2.mono λe w' ⟨q1,q2⟩=>⟨v,K,q1,⟨KM.le_refl K,λ_ _ _=>rfl,?_⟩,a0V 8 v t2⟩⟩;subst e2;exact a6k S ⟨q2.os,q2.tape,q2.output,q2.size,q2.block⟩
noncomputable def U7 (sh:a2x)(f:Nat)(g:List Value->M Value):a2x:=Trie.put (some (arX g)) (f+1) sh f
theorem d1i (sh f g i):(U7 sh f g).get i=if i=f then some (arX g)else sh.get i:=Trie.get_put _ _ _ _ (wG _) _
theorem d3r {ext N sh}(hs:a7S P T ext N sh)(f g):a7S P T (M7 ext f g) N (U7 sh f g):=by
 intro i q hi;rw[d1i]at hi;by_cases hif:i=f;subst hif;rw[vG rfl]at hi;cases hi;exact d4G (by unfold M7;rw[P9]);rw[vN hif]at hi;have h0:=hs i q hi;have e:M7 ext f g i=ext i:=by grind[M7,a0x]
 grind[atF]
structure Shelf' (P:Program) (T:Tab) (vs:a2Q) (N:Nat) (ext:Nat→Option (List Value→M Value)) (sh:a2x):Prop where
 e:a2M P T vs ext
 s:a7S P T ext N sh
theorem Shelf'.add {N ext sh}(L:Shelf' P T vs N ext sh){f g}(hg:K3 P T vs f g):Shelf' P T vs N (M7 ext f g) (U7 sh f g):=⟨a9V L.e hg,d3r L.s f g⟩
theorem a5m (sh n f aS9){q}(h:sh.get f=some q):o9 sh (n+1) f aS9=q (o9 sh n) aS9:=by grind[M.obind,o9]
theorem a5h (sh n f aS9){g}(h:sh.get f=some (arX g)):o9 sh (n+1) f aS9=M.bind (g aS9) λv=>M.pure (.ret v):=a5m sh n f aS9 h
theorem V9 (sh n f aS9){g:List Value->Option Value}{v}(h:sh.get f=some (arX λaS9=>M.lift (g aS9)))(e:g aS9=some v):o9 sh (n+1) f aS9=M.pure (.ret v):=by rw[a5h sh n f aS9 h,e];rfl
end
end Go.V
end
noncomputable section
namespace Go.V
section
variable (p:Program)(T:Tab)
theorem b2g {op t x y k n m v}(h1:a5v op k n m=none)(h2:b4R op k (.ofNat n) (.ofNat m)=none)(h3:c0f op k n m=some v):a0L p T op t x y (.int k (.ofNat n)) (.int k (.ofNat m))=M.pure v:=by
 have hk:a0A k k=true:=by cases k<;>rfl
 have:a3w op k k (.ofNat n) (.ofNat m)=some v:=by grind[a3w,a6o]
 grind[a0L]
theorem b0k (k n)(h:n<a3D k):Q0 k (.ofNat n)=.ofNat n:=by grind[Q0,I1]
theorem b5S (t x y k n m)(h:n<a3D k):a0L p T .quo t x y (.int k (.ofNat n)) (.int k (.ofNat (m+1)))=M.pure (.int k (.ofNat (n/(m+1)))):=by refine b2g p T rfl rfl ?_;show some (Value.int k (Q0 k (.ofNat (n/(m+1)))))=_;rw[b0k _ _ (uF (nZ _ _) h)]
theorem b5I (t x y k n m):a0L p T .rem t x y (.int k (.ofNat n)) (.int k (.ofNat (m+1)))=M.pure (.int k (.ofNat (n%(m+1)))):=b2g p T rfl rfl rfl
theorem b2K (t x y k n m)(hk:a3D k=2^k.bits)(h1:n<a3D k)(h2:m<a3D k):a0L p T .and t x y (.int k (.ofNat n)) (.int k (.ofNat m))=M.pure (.int k (.ofNat (Nat.land n m))):=by refine b2g p T rfl rfl ?_;show some (Value.int k (Q0 k (.ofNat (Nat.land (Nat.mod n (Nat.pow 2 k.bits)) (Nat.mod m (Nat.pow 2 k.bits))))))=_;have e1:Nat.mod n (Nat.pow 2 k.bits)=n:=tL (by rw[<-show(2:Nat)^k.bits=Nat.pow 2 k.bits from rfl,<-hk];exact h1);have e2:Nat.mod m (Nat.pow 2 k.bits)=m:=tL (by rw[<-show(2:Nat)^k.bits=Nat.pow 2 k.bits from rfl,<-hk];exact h2);rw[e1,e2,b0k];exact uF Nat.and_le_left h1
theorem a7u (t x y k k' n m)(h:m<=k.bits):a0L p T .shl t x y (.int k (.ofNat n)) (.int k' (.ofNat m))=M.pure (.int k (Q0 k (.ofNat (n*2^m)))):=by
 have e:a3w .shl k k' (.ofNat n) (.ofNat m)=some (.int k (Q0 k (.ofNat (n*2^m)))):=by
  have e1:a5v .shl k n m=some (.int k (Q0 k (.ofNat (n*2^m)))):=by show some (Value.int k (Q0 k (.ofNat (Nat.mul n (Nat.pow 2 (b0W k m))))))=_;simp_all[b0W,a1N]
  grind[a3w,a6o]
 grind[a0L]
theorem e2u (k k' z m)(h:m<=k.bits):a0E p (Op.shift .shr k z k' (.ofNat m))=some (.int k (z.fdiv (2^m))):=by unfold Op.shift;rw[vN zn];simp only[vB,Int.toNat_natCast,Nat.min_eq_left h];rfl
theorem R8 (t x y k k' z m)(h:m<=k.bits):a0L p T .shr t x y (.int k z) (.int k' (.ofNat m))=M.pure (.int k (z.fdiv (2^m))):=by
 cases z with
  |ofNat n=>
   have e:a3w .shr k k' (.ofNat n) (.ofNat m)=some (.int k (.ofNat (n/2^m))):=by
    have e1:a5v .shr k n m=some (.int k (.ofNat (n/2^m))):=by show some (Value.int k (.ofNat (Nat.div n (Nat.pow 2 (b0W k m)))))=_;unfold b0W;rw[a1N h];rfl
    grind[a3w,a6o]
   grind[a0L]|negSucc n=>
   have e:a3w .shr k k' (.negSucc n) (.ofNat m)=none:=by unfold a3w;show(match a0A k k' with|true=>_|false=>none)=none;cases a0A k k'<;>rfl
   unfold a0L;simp only[e];have hn:b1O T .shr t x y (.int k (.negSucc n)) (.int k' (.ofNat m))=none:=rfl;unfold a9H;rw[hn];simp only[show K5 8 (Value.int k (.negSucc n))=true from rfl,show K5 8 (Value.int k' (.ofNat m))=true from rfl,uX,P8];have k2:a0E p (do eqGuard .shr t x y (.int k (.negSucc n)) (.int k' (.ofNat m));binOp .shr t (.int k (.negSucc n)) (.int k' (.ofNat m)))=some (.int k ((Int.negSucc n).fdiv (2^m))):=by rw[a3o];have:a0E p (eqGuard .shr t x y (.int k (.negSucc n)) (.int k' (.ofNat m)))=some ():=rfl;rw[this];exact e2u p k k' _ m h
   rw[k2];rfl
end
theorem a5l (s kl kh l h)(e:l<=h)(e2:h<=z8 s.data.toList):a5H (.string s) (some (.int kl (.ofNat l))) (some (.int kh (.ofNat h)))=M.pure (.string ⟨⟨a0B (G7 s.data.toList l) (h-l)⟩⟩):=by show a7Y s _ _=_;grind[a7Y,a3n,a9D,F6,a1N,P8,Y3]
theorem a6g (s kl l)(e2:l<=z8 s.data.toList):a5H (.string s) (some (.int kl (.ofNat l))) none=M.pure (.string ⟨⟨a0B (G7 s.data.toList l) (z8 s.data.toList-l)⟩⟩):=by show a7Y s _ _=_;unfold a7Y;grind[a3n,a9D,F6,a1N,P8,Y3]
theorem Q4 (l i):d9P i (.tuple ⟨l⟩)=M.obind (a0k l i) M.pure:=wH rfl rfl
theorem c1Q (l i):xF1 i (.agg ⟨l⟩)=M.obind (a0k l i) M.pure:=wH rfl rfl
theorem a1i (t b x y):a1W t (bcase b x y)=bcase b (a1W t x) (a1W t y):=zi
theorem R4 (t):a1W t undef=false:=wH rfl rfl
theorem a2K (b x):bcase b x false=(b&&x):=zi
theorem c7X (b x):bcase b x true=(!b||x):=zi
theorem c7G (b x):bcase b true x=(b||x):=zi
theorem c7J (b x):bcase b false x=(!b&&x):=zi
theorem b5N {β}(b x y u u' v s)(f:Value->M β)(e):bcase b (R6 (go (a4u (bcase b x u) (bcase b y u') v) s) f) e=bcase b (R6 (go (a4u x y v) s) f) e:=zi
theorem b5C {β}(b n x y u u' v s)(f:Value->M β)(e):bcase b (R6 (go (a4u (bcase b x u) (bcase (b&&n) y u') v) s) f) e=bcase b (R6 (go (a4u x (bcase n y u') v) s) f) e:=zi
theorem b5s {β}(b x y u u' v s)(f:Value->M β)(e):bcase b e (R6 (go (a4u (bcase b u x) (bcase b u' y) v) s) f)=bcase b e (R6 (go (a4u x y v) s) f):=zi
theorem b0F {β}(b n x y u u' v s)(f:Value->M β)(e):bcase b e (R6 (go (a4u (bcase b u x) (bcase (!b&&n) y u') v) s) f)=bcase b e (R6 (go (a4u x (bcase n y u') v) s) f):=zi
theorem a0g {α}(x y:List α):z8 (E5 x y)=z8 x+z8 y:=by rw[G8,G8,G8,E9,wC]
theorem b3z (b c):a4u (.bool (!b)) (.bool true) (bcase b (.bool c) undef)=M.pure (.bool (!b||c)):=zi
theorem a8d (b c):a4u (.bool (!b)) (bcase b undef (.bool c)) (.bool false)=M.pure (.bool (!b&&c)):=zi
theorem Q7 (a b):a4u (.bool true) a b=M.pure a:=wH rfl rfl
theorem O9 (a b):a4u (.bool false) a b=M.pure b:=wH rfl rfl
theorem a7R (b x y):bcase b (CR.ret x) (CR.ret y)=.ret (bcase b x y):=zi
theorem b1q (b x y):bcase b (Value.string ⟨⟨x⟩⟩) (Value.string ⟨⟨y⟩⟩)=.string ⟨⟨bcase b x y⟩⟩:=zi
theorem c2G (b k x y):bcase b (Value.int k x) (Value.int k y)=.int k (bcase b x y):=zi
theorem a8U (b x y):bcase b (Value.bool x) (Value.bool y)=.bool (bcase b x y):=zi
theorem b0X (call f vs):a2a call f vs=M.bind (call f vs) λr=>a1B r M.pure λ_=>M.fail:=wH rfl rfl
theorem a3H (F):a1c [] F=true:=wH rfl rfl
theorem a3a (i j:Nat)(L:List (Nat×Nat))(F:List a0U):a1c ((i,j)::L) F=((match a0k F i with
 |some x=>match a0k F j with|some y=>a5a x y|none=>false
 |none=>false)&&a1c L F):=U5 _ _ _
theorem b0Q (a b c d):a5a (a,b) (c,d)=(a0d b c&&a0d b d&&a0d d a):=wH rfl rfl
theorem a2r (m):a0d [] m=true:=wH rfl rfl
theorem a5J (i l m):a0d (i::l) m=(!(a2V i m)&&a0d l m):=U5 _ _ _
theorem T9 (l):a0d l []=true:=by induction l with|nil=>rfl|cons i l ih=>rw[a5J,ih];rfl
theorem b0G (i):a2V i []=false:=wH rfl rfl
theorem a9m (i x:Nat)(m:List Nat):a2V i (x::m)=match Nat.beq i x with|true=>true|false=>a2V i m:=wH rfl rfl
theorem e2K {sh f N}{q:Cb->Nat->J4->M CR}(h:sh.get f=some (ar0 (q a4b N)))(n):o9 sh (n+1) f []=q o8 N (o9 sh n):=yE
theorem Y7 {sh f N}{q:Cb->Nat->J4->Value->M CR}(h:sh.get f=some (ar1 (q a4b N)))(n a):o9 sh (n+1) f [a]=q o8 N (o9 sh n) a:=yE
theorem a1H {sh f N}{q:Cb->Nat->J4->Value->Value->M CR}(h:sh.get f=some (ar2 (q a4b N)))(n a b):o9 sh (n+1) f [a,b]=q o8 N (o9 sh n) a b:=yE
theorem b1g {sh f N}{q:Cb->Nat->J4->Value->Value->Value->M CR}(h:sh.get f=some (ar3 (q a4b N)))(n a b c):o9 sh (n+1) f [a,b,c]=q o8 N (o9 sh n) a b c:=yE
theorem e2U {sh f N}{q:Cb->Nat->J4->Value->Value->Value->Value->M CR}(h:sh.get f=some (ar4 (q a4b N)))(n a b c d):o9 sh (n+1) f [a,b,c,d]=q o8 N (o9 sh n) a b c d:=yE
end Go.V
end
noncomputable section
namespace Go.V
def on1 (k:IntKind)(q:Int->Option Value)(bs:List Value):Option Value:=match bs with|[.int k' n]=>bcase (a0A k k') (q n) none|_=>none
def on2 (k1 k2:IntKind)(q:Int->Int->Option Value)(bs:List Value):Option Value:=match bs with|[.int k1' n,.int k2' m]=>bcase (a0A k1 k1'&&a0A k2 k2') (q n m) none|_=>none
theorem a7p (k):a0A k k=true:=by cases k<;>rfl
theorem b8b {k q bs v}(h:on1 k q bs=some v):∃n,bs=[.int k n]/\q n=some v:=by
 unfold on1 at h;split at h;rename_i k' n;cases hk:a0A k k' with|true=>rw[hk]at h;rw[a4D hk];exact⟨n,rfl,h⟩|false=>rw[hk]at h;cases h
 cases h
theorem d7X {k1 k2 q bs v}(h:on2 k1 k2 q bs=some v):∃n m,bs=[.int k1 n,.int k2 m]/\q n m=some v:=by
 unfold on2 at h;split at h;rename_i k1' n k2' m;cases hk:a0A k1 k1'&&a0A k2 k2' with|true=>rw[hk]at h;rw[wI]at hk;rw[a4D hk.1,a4D hk.2];exact⟨n,m,rfl,h⟩|false=>rw[hk]at h;cases h
 cases h
theorem c1z (k q n):on1 k q [.int k n]=q n:=by show bcase (a0A k k) (q n) none=_;rw[a7p];rfl
theorem e1p (k1 k2 q n m):on2 k1 k2 q [.int k1 n,.int k2 m]=q n m:=by show bcase (a0A k1 k1&&a0A k2 k2) (q n m) none=_;rw[a7p,a7p];rfl
def X1 (k:IntKind)(q:Int->Option Value):List Value->M Value:=λbs=>M.lift (on1 k q bs)
def X2 (k1 k2:IntKind)(q:Int->Int->Option Value):List Value->M Value:=λbs=>M.lift (on2 k1 k2 q bs)
theorem a1h {sh f k q}(h:sh.get f=some (arX (X1 k q)))(m){n v}(e:q n=some v):o9 sh (m+1) f [.int k n]=M.pure (.ret v):=V9 sh m f _ h (by rw[c1z];exact e)
theorem O7 {sh f k1 k2 q}(h:sh.get f=some (arX (X2 k1 k2 q)))(m){n n' v}(e:q n n'=some v):o9 sh (m+1) f [.int k1 n,.int k2 n']=M.pure (.ret v):=V9 sh m f _ h (by rw[e1p];exact e)
def a1a (m:M CR)(v:Value):Prop:=∀c h r w,l9 (go m ⟨c,h,r,w⟩) λx s2=>x=.ret v/\∀i,i<c->s2.h.get i=h.get i
theorem a1a.pure {m v}(h:m=M.pure (.ret v)):a1a m v:=λc hh r w=>⟨.ret v,_,by rw[h];rfl,rfl,λ_ _=>rfl⟩
section
variable {P:Program}{T:Tab}{vs:a2Q}{ext:Nat->Option (List Value->M Value)}{N:Nat}{sh:a2x}
theorem a8x (hT:TabOk P T)(hM:P.follows .mixedOrders=true)(L:Shelf' P T vs N ext sh){f fn cd}(hPf:P.funcs[f]?=some fn)(hnum:(fn.name== "runtime.NumGoroutine")=false)(hb:fn.body=some cd){k}{q}(h:∀n v,q n=some v->K5 8 v=true/\∃m,a1a (o9 sh m f [.int k n]) v):K3 P T vs f (X1 k q):=a2c hT hM L.e L.s hPf hnum hb λbs v hq=>by obtain⟨n,rfl,e⟩:=b8b hq;obtain⟨h1,m,h2⟩:=h n v e;exact⟨h1,λc h r w=>⟨m,h2 c h r w⟩⟩
theorem f1z (hT:TabOk P T)(hM:P.follows .mixedOrders=true)(L:Shelf' P T vs N ext sh){f fn cd}(hPf:P.funcs[f]?=some fn)(hnum:(fn.name== "runtime.NumGoroutine")=false)(hb:fn.body=some cd){k1 k2}{q}(h:∀n n' v,q n n'=some v->K5 8 v=true/\∃m,a1a (o9 sh m f [.int k1 n,.int k2 n']) v):K3 P T vs f (X2 k1 k2 q):=a2c hT hM L.e L.s hPf hnum hb λbs v hq=>by obtain⟨n,n',rfl,e⟩:=d7X hq;obtain⟨h1,m,h2⟩:=h n n' v e;exact⟨h1,λc h r w=>⟨m,h2 c h r w⟩⟩
theorem a8K {f k q}(h:∀n v,q n=some v->K5 8 v=true/\a7g P vs f [.int k n] v):K3 P T vs f (X1 k q):=a4j λbs v hq=>by obtain⟨n,rfl,e⟩:=b8b hq;exact⟨rfl,h n v e⟩
end
end Go.V
namespace Go.V
section
variable {P:Program}{T:Tab}{vs:a2Q}
theorem d7a {f k q1 q2 q}(h1:K3 P T vs f (X1 k q1))(h2:K3 P T vs f (X1 k q2))(h:∀z v,q z=some v->q1 z=some v\/q2 z=some v):K3 P T vs f (X1 k q):=by refine⟨λbs=>Fr.lift _,?_⟩;intro B0 w0 hL hB bs s v s' w K bs' hg;obtain⟨e1,rfl⟩:=a3s hg;obtain⟨z,rfl,e⟩:=b8b e1;rcases h z v e with e2|e2;exact h1.2 B0 w0 hL hB _ s' v s' w K bs' (by show M.lift (on1 k q1 _) s'=_;rw[c1z,e2];rfl);exact h2.2 B0 w0 hL hB _ s' v s' w K bs' (by show M.lift (on1 k q2 _) s'=_;rw[c1z,e2];rfl)
noncomputable def b3H (r:Option (CR×S))(m:Nat):Bool:=match r with
 |some x=>match x.1 with
  |.ret v=>match v with|.int k n=>a0A k .i64&&(match n with|.ofNat j=>Nat.beq j m|.negSucc _=>false)|_=>false
  |.pan _=>false
 |none=>false
theorem b2y {r m}(h:b3H r m=true):∃s,r=some (.ret (.int .i64 (.ofNat m)),s):=by unfold b3H at h;split at h;rename_i x;split at h;rename_i v hv;split at h;rename_i k n;rw[wI]at h;split at h;rename_i j;obtain⟨y,s⟩:=x;obtain rfl:y=_:=hv;obtain rfl:=a4D h.1;simp_all;cases h.2;cases h;cases h;cases h
end
end Go.V
end
noncomputable section
namespace Go.V
def K6 (c:Nat)(h:Trie VObj)(v:Value)(vs:List Value):Prop:=∃a e,v=.slice a vs.length e/\(vs=[]\/∃b o g cs cur ro,a=some ⟨b,o,some g⟩/\e=1/\b<c/\h.get b=some (.cells cs cur ro)/\q9 g (G7 cs o) vs.length=some vs)
theorem a1k {g}:∀{cs} {n} {vs},q9 g cs n=some vs->∀(i) (x),vs[i]?=some x->q9 g (G7 cs i) 1=some [x]:=by
 intro cs;induction cs with
  |nil=>intro n vs h i x hx;cases n with|zero=>cases h;simp at hx|succ n=>cases h
  |cons q cs ih=>
   intro n vs h i x hx;cases n with
    |zero=>cases h;simp at hx|succ n=>
     obtain⟨v,st⟩:=q;rw[a1E]at h;split at h;rename_i hb;split at h;rename_i vs' hvs;cases h;cases i with|zero=>obtain rfl:v=x:=zo;rw[a0f,a1E,hb,a0e]|succ i=>exact ih hvs i x zo
     cases h;cases h
theorem K6.get {c h v vs}(H:K6 c h v vs){i x}(hx:vs[i]?=some x):∃b o g cs cur ro,v=.slice (some ⟨b,o,some g⟩) vs.length 1/\b<c/\h.get b=some (.cells cs cur ro)/\q9 g (G7 cs (o+i)) 1=some [x]:=by obtain⟨a,e,rfl,hor⟩:=H;rcases hor with rfl|⟨b,o,g,cs,cur,ro,rfl,rfl,h1,h2,h3⟩;simp at hx;exact⟨b,o,g,cs,cur,ro,rfl,h1,h2,by rw[a4z];grind[a1k]⟩
theorem K6.read {c c' h h' v vs}(H:K6 c h v vs)(hc:c<=c')(hh:∀b,b<c->h'.get b=h.get b){i x}(hx:vs[i]?=some x):∃p b,b<c/\a6U 1 v (.int .i64 (.ofNat i))=M.pure p/\∀r w,go (a7e p) ⟨c',h',r,w⟩=some (x,⟨c',h',b::r,w⟩):=by obtain⟨b,o,g,cs,cur,ro,rfl,h1,h2,h3⟩:=H.get hx;have hlt:i<vs.length:=(wM.1 hx).1;refine⟨.pointer (some ⟨b,o+i*1,some g⟩),b,h1,a1x 1 i vs.length .i64 b o (some g) hlt zu,λr w=>?_⟩;rw[a2A,I1 zy,hh b h1,h2,a0c,vD,h3];rfl
theorem K6.len {c h v vs}(H:K6 c h v vs):b2F v=M.pure (.int .i64 (.ofNat vs.length)):=by obtain⟨a,e,rfl,_⟩:=H;rfl
theorem K6.one {c h v vs}(H:K6 c h v vs):N8 v=true:=by obtain⟨a,e,rfl,_⟩:=H;rfl
theorem K6.mono {c c' h h' v vs}(H:K6 c h v vs)(hc:c<=c')(hh:∀b,b<c->h'.get b=h.get b):K6 c' h' v vs:=by obtain⟨a,e,rfl,hor⟩:=H;refine⟨a,e,rfl,?_⟩;grind
def b8i (v:Value):M (List Value):=M.guard (b5m v) (a9p 1 v)
theorem Fr.rdSl (v:Value):Fr (b8i v):=Fr.guard _ (Fr.source _ _)
theorem c2d {v s s' vs}(h:b8i v s=some (vs,s')):K6 s.c s.h v vs/\s'.c=s.c/\s'.h=s.h:=by
 obtain⟨h1,h2⟩:=I4 h;cases v with
  |slice a n e=>
   have h3:(match a with|none=>M.guard (Nat.beq n 0)<|M.pure []|some a=>match n with|0=>M.pure []|len+1=>M.guard (Nat.beq e 1)<|loadN a ((len+1)*1)) s=some (vs,s'):=h2;cases a with
    |none=>obtain⟨q1,q2⟩:=I4 h3;obtain⟨rfl,rfl⟩:=x8 q2;obtain rfl:=wK q1;exact⟨⟨none,e,rfl,Or.inl rfl⟩,rfl,rfl⟩|some a=>
     cases n with
      |zero=>obtain⟨rfl,rfl⟩:=x8 h3;exact⟨⟨some a,e,rfl,Or.inl rfl⟩,rfl,rfl⟩|succ n=>
       obtain⟨q1,q2⟩:=I4 h3;have hb:a.block<s.c:=by obtain⟨g,h5,h6⟩:=H9 q2;obtain⟨o,s1,h7,_⟩:=D6 h6;exact(b0L h7).1
       obtain⟨g,cs,cur,ro,e1,e2,e3,e4,e5⟩:=a9l q2;obtain rfl:=wK q1;rw[vD,<-a0z]at e3;have hl:vs.length=n+1:=(a6H g _ _ _ e3).1;obtain⟨b,off,sp⟩:=a;obtain rfl:sp=some g:=e1;refine⟨⟨_,1,by rw[hl],Or.inr ⟨b,off,g,cs,cur,ro,rfl,rfl,hb,e2,by rw[hl];exact e3⟩⟩,e4,e5⟩
  |_=>cases h1
def b3g (k:IntKind)(vs:List Value):Option (List Int):=List.rec (motive:=λ_=>Option (List Int)) (some []) (λv _ ih=>match v with
 |.int k' n=>match a0A k k' with
  |true=>match ih with|some l=>some (n::l)|none=>none
  |false=>none
 |_=>none) vs
theorem c6n {k}:∀{vs} {l},b3g k vs=some l->vs=l.map (λn=>Value.int k n):=by intro vs;induction vs<;>first|rfl|grind[b3g,a4D]
end Go.V
namespace Go.V
theorem d1Y {c c' h h' v vs}(H:K6 c h v vs)(hc:c<=c')(hh:∀b,b<c->h'.get b=h.get b):∃q:List Nat->List Nat,∀r w,go (b8i v) ⟨c',h',r,w⟩=some (vs,⟨c',h',q r,w⟩):=by obtain⟨a,e,rfl,hor⟩:=H;rcases hor with rfl|⟨b,o,g,cs,cur,ro,rfl,rfl,h1,h2,h3⟩;refine⟨id,λr w=>?_⟩;cases a<;>rfl;cases vs with|nil=>exact⟨id,λr w=>rfl⟩|cons x vs=>refine⟨λr=>b::r,λr w=>?_⟩;show go (M.guard (Nat.beq 1 1) (loadN ⟨b,o,some g⟩ ((vs.length+1)*1))) _=_;rw[P9,P8,a1n,I1 zy,hh b h1,h2,a0c,vD];rw[wE]at h3;rw[h3];rfl
theorem c9C (k l):b3g k (l.map λn=>Value.int k n)=some l:=by
 induction l with
  |nil=>rfl|cons x l ih=>
   show(match a0A k k with
    |true=>match b3g k (l.map λn=>Value.int k n)with|some l=>some (x::l)|none=>none
    |false=>none)=_;rw[a7p,ih]
end Go.V
end
noncomputable section
namespace Go.V
def c0g {α:Type}(x:Option (α×S))(r w:List Nat):Option ((α×a0U)×S):=match x with|none=>none|some y=>some ((y.1,(y.2.r,y.2.w)),⟨y.2.c,y.2.h,E5 y.2.r r,E5 y.2.w w⟩)
theorem b8h {α}(m:M α)(c h r w):go (M.foot m) ⟨c,h,r,w⟩=c0g (go m ⟨c,h,[],[]⟩) r w:=rfl
theorem b2s {α}(a:α)(c h r' w' r w):c0g (some (a,(⟨c,h,r',w'⟩:S))) r w=some ((a,(r',w')),⟨c,h,E5 r' r,E5 w' w⟩):=wH rfl rfl
theorem A7 {α}{x y:Option (α×S)}(r w)(h:x=y):c0g x r w=c0g y r w:=by rw[h]
section
variable {P:Program}{T:Tab}{vs:a2Q}
def a6V (q:List Value->Option (List Value))(bs:List Value):M Value:=M.obind (q bs) λcs=>match cs with|[]=>M.pure (.slice none 0 0)|v::cs=>M.bind (Y9 (v::cs)) λa=>M.pure (.slice (some a) (z8 cs+1) 1)
theorem d7f (q bs):Fr (a6V q bs):=Fr.obind _ λcs=>by cases cs<;>first|rfl|grind[Fr.pure,Fr.bind,Fr.newCells]
theorem c7K (hT:TabOk P T)(hM:P.follows .mixedOrders=true){ext}(hE:a2M P T vs ext){N}{sh}(hs:a7S P T ext N sh){f}{fn}{cd}(hPf:P.funcs[f]?=some fn)(hnum:(fn.name== "runtime.NumGoroutine")=false)(hb:fn.body=some cd){q}(h:∀bs cs,q bs=some cs->J7 plain cs=true/\∀c h r w,∃n,l9 (go (o9 sh n f bs) ⟨c,h,r,w⟩) λx s2=>(∀i,i<c->s2.h.get i=h.get i)/\((cs=[]/\x=.ret (.slice none 0 0))\/(cs≠[]/\∃b g ds,x=.ret (.slice (some ⟨b,0,some g⟩) cs.length 1)/\c<=b/\s2.h.get b=some (.cells ds g false)/\K4 (·.1) ds=cs))):K3 P T vs f (a6V q):=by
 refine b5k hT hM hE hs hPf hnum hb (d7f q) λbs s v s1 hg c' h1 h2 h3=>?_;obtain⟨cs,e,hg'⟩:=H9 hg;obtain⟨hpl,hr⟩:=h bs cs e;obtain⟨n,x,s2,hrun,hold,hor⟩:=hr c' s.h s.r s.w;have hrun':o9 sh n f bs ⟨c',s.h,s.r,s.w⟩=some (x,s2):=hrun;rcases hor with⟨rfl,rfl⟩|⟨hne,b,g,ds,rfl,hb2,hds,hmap⟩;obtain⟨rfl,rfl⟩:=x8 hg';refine⟨n,_,s2,λ_=>none,hrun',⟨λi hi=>Or.inr ⟨rfl,hold i hi.1⟩,λb b2 g2 hm=>(by cases hm),λb hb _=>?_,λb b' x x' hm=>(by cases hm)⟩,.plain rfl,λi _ hi=>hold i hi⟩;exact h3 b (oF λhlt=>hb ⟨hlt,λhx=>zy⟩);cases cs with
  |nil=>simp_all|cons v0 cs0=>
   have hg2:M.bind (Y9 (v0::cs0)) (λa=>M.pure (Value.slice (some a) (z8 cs0+1) 1)) s=some (v,s1):=hg';obtain⟨a,s1',q1,q2⟩:=D6 hg2;obtain⟨rfl,rfl⟩:=x8 q2;obtain⟨k1,k2,k3,k4⟩:=b0z q1;have hc1:s1.c=s.c+1:=k3;have hnew:s1.h.get s.c=some (.cells ((v0::cs0).map λv=>(v,0)) 0 false):=by rw[k4,vG rfl]
   have hoth:∀i,i≠s.c->s1.h.get i=s.h.get i:=λi hi=>by rw[k4,vN hi]
   refine⟨n,_,s2,λi=>if i=s.c then some (b,g)else none,hrun',⟨λi hi=>Or.inr ⟨?_,hold i hi.1⟩,λi b2 g2 hm=>?_,λi hi hm=>?_,λi i' x x' hm hm' hx=>?_⟩,?_,λi hi1 hi2=>hold i hi2⟩;exact hoth i (λe=>hi.2 zy);split at hm;rename_i hi;cases hm;subst hi;refine⟨λhx=>hx.2 ⟨wP _,zy⟩,λhx=>by have:=hx.1;omega,_,ds,hnew,hds,?_,λi v w st st' hv hw=>?_⟩;have:=vw List.length hmap;rw[a0N]at this;simp_all;rw[vW]at hv;cases hvo:(v0::cs0)[i]? with|none=>rw[hvo]at hv;cases hv|some y=>rw[hvo]at hv;cases hv;refine⟨rfl,?_⟩;rw[<-hmap,a0N,vW,hw]at hvo;have ey:w=v:=zo;subst ey;refine .plain ((M5 _ _).1 hpl w ?_);rw[<-hmap,a0N];grind
   cases hm;split at hm;cases hm;rename_i hne';rw[hoth i hne'];exact h3 i (oF λhlt=>hi ⟨hlt,λhx=>zy⟩);simp_all;rw[k2,show z8 cs0+1=(v0::cs0).length by rw[G8];rfl];exact .sliceNew (by rw[vG rfl])
end
end Go.V
end
noncomputable section
namespace Go.V
open Go.RowKit (Below)
def b4x (l:List UInt8):List UInt8->Bool:=List.rec (motive:=λ_=>List UInt8->Bool) (λ_=>true) (λv _ ih m=>match m with|[]=>false|w::m=>match Nat.beq v.toNat w.toNat with|true=>ih m|false=>false) l
def b3u (sub s:List UInt8):Bool:=List.rec (motive:=λ_=>Bool) (b4x sub []) (λc s ih=>match b4x sub (c::s)with|true=>true|false=>ih) s
theorem c1x (l):∀m,b4x l m=l.isPrefixOf m:=by
 induction l with
  |nil=>intro m;cases m<;>rfl|cons v l ih=>
   intro m;cases m with
    |nil=>rfl|cons w m=>
     show(match Nat.beq v.toNat w.toNat with|true=>b4x l m|false=>false)=(v==w&&l.isPrefixOf m);have e:Nat.beq v.toNat w.toNat=(v==w):=by rw[Bool.eq_iff_iff];simp_all[nu]
     rw[e,ih];cases v==w<;>simp
def a1y (l:List UInt8)(n:Nat):List UInt8:=Nat.rec (motive:=λ_=>List UInt8) [] (λ_ ih=>E5 l ih) n
def a4y (sep:List UInt8)(xs:List (List UInt8)):List UInt8:=List.rec (motive:=λ_=>List UInt8) [] (λx _ ih=>E5 sep (E5 x ih)) xs
def a4S (sep:List UInt8)(xs:List (List UInt8)):List UInt8:=match xs with|[]=>[]|x::xs=>E5 x (a4y sep xs)
theorem c8j (l n):a1y l n=Lib.repeatL l n:=by induction n with|zero=>rfl|succ n ih=>show E5 l (a1y l n)=_;rw[E9,ih];rfl
theorem c2B (sep xs):a4y sep xs=Lib.joinTail sep xs:=by induction xs<;>first|rfl|grind[a4y,E9,Lib.joinTail]
theorem c2m (sep xs):a4S sep xs=Lib.join xs sep:=by cases xs with|nil=>rfl|cons x xs=>show E5 x (a4y sep xs)=_;rw[E9,c2B,Lib.join_cons]
theorem c3l (sub s):b3u sub s=Lib.contains s sub:=by
 unfold Lib.contains;induction s with
  |nil=>show b4x sub []=_;rw[c1x];cases sub with|nil=>rfl|cons a t=>rfl
  |cons c s ih=>show(match b4x sub (c::s)with|true=>true|false=>b3u sub s)=_;rw[c1x,ih,Lib.index];have hge:=Lib.index_ge s sub;grind
def b1a (bs:List Value):Option Value:=match bs with
 |[.string s,.string sub]=>match Nat.blt (z8 s.data.toList) 4294967281 with|true=>some (.bool (b3u sub.data.toList s.data.toList))|false=>none
 |_=>none
def b0i (bs:List Value):Option Value:=match bs with
 |[.string s,.int .i64 (.ofNat c)]=>match Nat.blt c 4294967296&&Nat.ble (z8 s.data.toList*c) 4294967296 with|true=>some (.string ⟨⟨a1y s.data.toList c⟩⟩)|false=>none
 |_=>none
def a3T (vs:List Value):Option (List (List UInt8)):=List.rec (motive:=λ_=>Option (List (List UInt8))) (some []) (λv _ ih=>match v with
 |.string s=>match ih with|some l=>some (s.data.toList::l)|none=>none
 |_=>none) vs
theorem c7y:∀(vs) (l),a3T vs=some l->vs=l.map λx=>.string ⟨⟨x⟩⟩:=by
 intro vs;induction vs with
  |nil=>intro l h;cases h;rfl|cons v vs ih=>
   intro l h;cases v with
    |string s=>have h:(match a3T vs with|some l=>some (s.data.toList::l)|none=>none)=some l:=h;cases hs:a3T vs with|none=>rw[hs]at h;cases h|some l'=>rw[hs]at h;cases h;rw[ih l' hs];rfl
    |_=>cases h
def a8o (bs:List Value):M Value:=match bs with
 |[.slice a len es,.string sep]=>match len with|0=>M.pure (.string ⟨⟨[]⟩⟩)|n+1=>M.obind a λa=>M.guard (Nat.beq es 1)<|M.bind (loadN a (n+1)) λvs=>M.obind (a3T vs) λxs=>M.guard (Nat.blt n 4294967295&&Nat.blt (z8 (a4S sep.data.toList xs)) 4294967296)<|M.pure (.string ⟨⟨a4S sep.data.toList xs⟩⟩)
 |_=>M.fail
section
variable {P:Program}{T:Tab}{vs:a2Q}
theorem c3P {f:Nat}(hen:∀(aS9) w,(callFunc f aS9).run P w=.ok (.enter f aS9) w)(h0:∀(a) (c) (sep) (w),Calls P f #[.slice a 0 c,.string sep] w λe w'=>e=.returned (.string ⟨#[]⟩)/\w'=w) (h1:∀(bk o c) (xs:List ByteArray) (sep) (w),(∀(j) x,xs[j]?=some x->w.cell? ⟨bk,o+j,none⟩=some (.string x))->bk<w.heap.size->xs.length<=140737488355328->xs.length<=c->(Lib.join (xs.map (·.data.toList)) sep.data.toList).length<=140737488355328->Calls P f #[.slice (some ⟨bk,o,none⟩) xs.length c,.string sep] w λe w'=>e=.returned (.string ⟨(Lib.join (xs.map (·.data.toList)) sep.data.toList).toArray⟩)/\Below w.heap.size w w'):K3 P T vs f a8o:=by
 refine⟨λaS9=>?_,?_⟩;unfold a8o;grind[Fr.pure,Fr.obind,Fr.guard,Fr.bind,Fr.loadN,Fr.fail];intro B0 w0 hL hB aS9 s v s' w K as' h S hG F has;unfold a8o at h;split at h;rename_i a len es sep;obtain⟨x',y',rfl⟩:∃x' y',as'=[x',y']:=by have:=has.len;match as',this with|[x',y'],_=>simp_all
 have ry:y'=.string sep:=(has.at_ 1 _ _ rfl rfl).eq_of_plain rfl;have rx:VR K x' (.slice a len es):=has.at_ 0 _ _ rfl rfl;subst ry;refine Or.inr ⟨hen _ _,?_⟩;split at h;obtain⟨rfl,rfl⟩:=x8 h;have:∃a' c,x'=.slice a' 0 c:=by generalize hz:Value.slice a 0 es=z at rx;cases rx<;>grind
 obtain⟨a',c,rfl⟩:=this;refine(h0 a' c sep w).mono λe w' ⟨q1,q2⟩=>?_;subst q2;exact⟨_,K,q1,Step.same S rfl,.plain rfl⟩;rename_i n;obtain⟨ad,ea,h2⟩:=H9 h;subst ea;obtain⟨hes,h3⟩:=I4 h2;obtain⟨ws,s1,h4,h5⟩:=D6 h3;obtain⟨xs,hx,h6⟩:=H9 h5;obtain⟨hg,h7⟩:=I4 h6;obtain⟨rfl,rfl⟩:=x8 h7;simp only[wI]at hg;obtain⟨g,cs,cur,ro,e1,e2,e3,e4,e5⟩:=a9l h4;have es1:=wK hes;subst es1;have hsl:∃l a' cap,x'=.slice (some a') (n+1) cap/\K ad.block g=some l/\l.lo<=ad.off/\n+1<=cap/\a'=⟨l.blk,l.at_+(ad.off-l.lo),none⟩:=by generalize hz:Value.slice (some ad) (n+1) 1=z at rx;cases rx with|plain hp=>grind[V.plain]| @slice b g' off len cap es l a' hk hlo hes' hcap hsp hor=>cases hz;cases e1;have hcap0:cap≠0:=zy;obtain⟨q1,q2,_⟩:=hor.resolve_left hcap0;obtain⟨ab,ao,asp⟩:=a';grind|_=>cases hz
 obtain⟨l,a',cap,rfl,hk,hlo,hcap,rfl⟩:=hsl;obtain⟨ws',c1,c2,c3⟩:=a9j S hk hlo e2 e3;have hws:=c7y ws xs hx;have hw':ws'=ws:=by
  apply ui;intro i;by_cases hi:i<ws.length;have hi':i<ws'.length:=by rw[c1.len];exact hi
  have r:=c1.at_ i _ _ (wO hi') (wO hi);rw[wO hi',wO hi];have:plain ws[i]=true:=by
   have hm:∀u,u∈ws->plain u=true:=λu hu=>by rw[hws]at hu;obtain⟨y,_,hy⟩:=uQ.1 hu;rw[<-hy];rfl
   simp_all
  rw[r.eq_of_plain this];rw[vg (by rw[c1.len];omega),vg zy]
 have hlen:xs.length=n+1:=by rw[<-c2,hws];simp
 have key:=h1 l.blk (l.at_+(ad.off-l.lo)) cap (xs.map λx=>(⟨⟨x⟩⟩:ByteArray)) sep w (λj x hj=>zo) (S.dom _ _ _ hk) (by have:=hg.1;simp at this⊢;omega) zl (by
  have hj:(xs.map λx=>(⟨⟨x⟩⟩:ByteArray)).map (λb=>b.data.toList)=xs:=by rw[tq];exact List.map_id'' (λ_=>rfl) xs
  rw[hj,<-c2m];have:=hg.2;rw[G8]at this;simp at this;omega);have hj:(xs.map λx=>(⟨⟨x⟩⟩:ByteArray)).map (λb=>b.data.toList)=xs:=by rw[tq];exact List.map_id'' (λ_=>rfl) xs
 rw[hj,<-c2m]at key;rw[wB,hlen]at key;refine key.mono λe w' ⟨q1,q2⟩=>?_;refine⟨_,K,q1,⟨KM.le_refl K,λ_ _ _=>rfl,?_⟩,.plain rfl⟩;rw[e5];exact a6k S ⟨q2.os,q2.tape,q2.output,q2.size,q2.block⟩;cases h
end
end Go.V
end
noncomputable section
namespace Go.V
variable {c:Nat}{h:Trie VObj}{r w:List Nat}
def apS {γ:Type}(lt:Bool)(ob:Option VObj)(o g len:Nat)(vs:List Value)(k:List (Value×Nat)->Nat->Bool->Option γ):Option γ:=match lt with
 |true=>match ob with
  |some (.cells cs cur ro)=>match !ro&&Nat.ble (o+len) (z8 cs)with
   |true=>match q9 g (G7 cs o) len with|some _=>k (E5 (a0B cs (o+len)) (K4 (λv=>(v,cur+1)) vs)) cur ro|none=>none
   |false=>none
  |_=>none
 |false=>none
theorem d0U {γ}(cs cur ro o g len vs)(k:List (Value×Nat)->Nat->Bool->Option γ)(e:(!ro&&Nat.ble (o+len) (z8 cs))=true):apS true (some (.cells cs cur ro)) o g len vs k=oS (q9 g (G7 cs o) len) λ_=>k (E5 (a0B cs (o+len)) (K4 (λv=>(v,cur+1)) vs)) cur ro:=by grind[apS,oS]
theorem E8 {γ lt lt' ob ob'}(o g len vs)(k:List (Value×Nat)->Nat->Bool->Option γ)(h1:lt=lt')(h2:ob=ob'):apS lt ob o g len vs k=apS lt' ob' o g len vs k:=by rw[h1,h2]
theorem b5T {α β}(m)(k:α->M β)(s):M.bind m k s=R6 (go m s) λa=>k a:=by rw[<-J8];rfl
theorem c4g {e}(e1:e.size=1)(e2:Nat.blt e.bytes 4096=true)(ab o g n vs)(hv:vs≠[])(ho:J7 N8 vs=true)(hl:(n+z8 vs)*4<a4i):go (a1P e (.slice (some ⟨ab,o,some g⟩) n 1) vs) ⟨c,h,r,w⟩=apS (Nat.blt ab c) (h.get ab) o g n vs λcs' cur ro=>some (.slice (some ⟨ab,o,some (cur+1)⟩) (n+z8 vs) 1,⟨c,upd h ab (.cells cs' (cur+1) ro),ab::r,ab::w⟩):=by
 cases vs with
  |nil=>simp_all|cons v vs=>
   have hlen:z8 (v::vs)=z8 vs+1:=rfl;rw[hlen]at hl;have e3:Nat.blt ((n+(z8 vs+1))*4) a4i=true:=by rw[uZ];exact hl
   have e4:Nat.beq ((z8 vs+1)/1*1) (z8 vs+1)=true:=by rw[nW,vD];simp_all
   show a1P e _ _ _=_;unfold a1P;simp only[a2U,e1,ho,nW,vD,e3,e2,P9,uX,P8];unfold appendAt apS;simp only[F6,e1,vD];rw[b5T];show R6 (rd ab ⟨c,h,r,w⟩) _=_;rw[b3w];cases hb:Nat.blt ab c with
    |false=>rfl|true=>
     cases hob:h.get ab with
      |none=>rfl|some ob=>
       cases ob with
        |cells cs cur ro=>simp only[J5,a5w];cases hro:!ro with|false=>rfl|true=>cases hble:Nat.ble (o+n) (z8 cs)with|false=>rfl|true=>simp only[P8,uX];cases q9 g (G7 cs o) n with|none=>rfl|some _=>simp only[F6,Y3];rw[J8];show R6 (wr ab _ _) _=_;rw[b1u,hb,hob];rfl
        |_=>rfl
theorem b9I {e}(e1:e.size=1)(e2:Nat.blt e.bytes 4096=true)(es vs)(hv:vs≠[])(ho:J7 N8 vs=true)(hl:(z8 vs)*4<a4i):go (a1P e (.slice none 0 es) vs) ⟨c,h,r,w⟩=some (.slice (some ⟨c,0,some 0⟩) (z8 vs) 1,⟨c+1,upd h c (.cells (K4 (λv=>(v,0)) vs) 0 false),r,c::w⟩):=by
 cases vs with
  |nil=>simp_all|cons v vs=>
   have hlen:z8 (v::vs)=z8 vs+1:=rfl;rw[hlen]at hl;have e3:Nat.blt ((0+(z8 vs+1))*4) a4i=true:=by rw[uZ,vY];exact hl
   show a1P e _ _ _=_;unfold a1P;simp only[a2U,e1,ho,nW,vD,e3,e2,P9,uX,P8];rw[b5T,a1U (e:=ho),J5];rfl
def apC (n:Nat)(vs:List Value):Bool:=match vs with|[]=>false|v::vs=>J7 N8 (v::vs)&&Nat.blt ((n+z8 (v::vs))*4) 4294967296
theorem b5t (n v vs):apC n (v::vs)=(J7 N8 (v::vs)&&Nat.blt ((n+z8 (v::vs))*4) 4294967296):=wH rfl rfl
theorem c4t {n vs}(h:apC n vs=true):vs≠[]/\J7 N8 vs=true/\(n+z8 vs)*4<a4i:=by cases vs with|nil=>cases h|cons v vs=>rw[b5t,wI,uZ]at h;exact⟨zq,h⟩
theorem b4W {e}(e1:e.size=1)(e2:Nat.blt e.bytes 4096=true)(b n es vs)(hv:vs≠[])(hc:apC n vs=false):go (a1P e (.slice b n es) vs) ⟨c,h,r,w⟩=none:=by cases vs with|nil=>simp_all|cons v vs=>show a1P e _ _ _=_;rw[b5t]at hc;have e5:(J7 N8 (v::vs)&&Nat.blt ((n+(z8 vs+1))*4) a4i)=false:=hc;unfold a1P;simp only[a2U,e1,nW,vD,e2,P9,uK,sP,e5];rfl
theorem d8s {g cs m vs}(h:q9 g cs (m+1)=some vs):vs≠[]:=by cases cs<;>first|rfl|grind[q9]
theorem b8H (xb ox gx m):a9p 1 (.slice (some ⟨xb,ox,some gx⟩) (m+1) 1)=loadN ⟨xb,ox,some gx⟩ ((m+1)*1):=wH rfl rfl
theorem c9j (m xb ox gx)(k:List Value->M Value)(k')(hk:∀vs,vs≠[]->go (k vs) ⟨c,h,xb::r,w⟩=k' vs):R6 (ldS (Nat.blt xb c) (h.get xb) ox gx (m+1) λvs=>some (vs,⟨c,h,xb::r,w⟩)) k=ldS (Nat.blt xb c) (h.get xb) ox gx (m+1) k':=by unfold ldS;cases Nat.blt xb c<;>first|rfl|grind[R6,d8s]
theorem d8W {e}(e1:e.size=1)(e2:Nat.blt e.bytes 4096=true)(ab o g n xb ox gx m):go (a4c e (.slice (some ⟨ab,o,some g⟩) n 1) (.slice (some ⟨xb,ox,some gx⟩) (m+1) 1)) ⟨c,h,r,w⟩=ldS (Nat.blt xb c) (h.get xb) ox gx (m+1) λvs=>bcase (apC n vs) (apS (Nat.blt ab c) (h.get ab) o g n vs λcs' cur ro=>some (.slice (some ⟨ab,o,some (cur+1)⟩) (n+z8 vs) 1,⟨c,upd h ab (.cells cs' (cur+1) ro),ab::xb::r,ab::w⟩)) none:=by unfold a4c;rw[e1,b8H,vD,J8,a1n];refine c9j m xb ox gx _ _ λvs hv=>?_;rw[Y3];cases hc:apC n vs with|false=>exact b4W e1 e2 _ n 1 vs hv hc|true=>obtain⟨h1,h2,h3⟩:=c4t hc;exact c4g e1 e2 ab o g n vs h1 h2 h3
theorem c3U {e}(e1:e.size=1)(e2:Nat.blt e.bytes 4096=true)(es xb ox gx m):go (a4c e (.slice none 0 es) (.slice (some ⟨xb,ox,some gx⟩) (m+1) 1)) ⟨c,h,r,w⟩=ldS (Nat.blt xb c) (h.get xb) ox gx (m+1) λvs=>bcase (apC 0 vs) (some (.slice (some ⟨c,0,some 0⟩) (z8 vs) 1,⟨c+1,upd h c (.cells (K4 (λv=>(v,0)) vs) 0 false),xb::r,c::w⟩)) none:=by unfold a4c;rw[e1,b8H,vD,J8,a1n];refine c9j m xb ox gx _ _ λvs hv=>?_;rw[Y3];cases hc:apC 0 vs with|false=>exact b4W e1 e2 _ 0 es vs hv hc|true=>obtain⟨h1,h2,h3⟩:=c4t hc;exact b9I e1 e2 es vs h1 h2 (by rw[vY]at h3;exact h3)
theorem b7i {e}(b n es k):go (a4c e (.slice b n es) (.slice none 0 k)) ⟨c,h,r,w⟩=some (.slice b n es,⟨c,h,r,w⟩):=za
theorem c4p {q bs}(e:q bs=some []):go (a6V q bs) ⟨c,h,r,w⟩=some (.slice none 0 0,⟨c,h,r,w⟩):=by show a6V q bs _=_;unfold a6V;rw[e];rfl
theorem b3K {q bs v vs}(e:q bs=some (v::vs))(ho:J7 N8 (v::vs)=true):go (a6V q bs) ⟨c,h,r,w⟩=some (.slice (some ⟨c,0,some 0⟩) (z8 vs+1) 1,⟨c+1,upd h c (.cells (K4 (λv=>(v,0)) (v::vs)) 0 false),r,c::w⟩):=by show a6V q bs _=_;unfold a6V;rw[e];rw[F6];simp only[];rw[b5T,a1U (e:=ho),J5];rfl
theorem b5h:N8 .nilFunc=true:=wH rfl rfl
theorem b3d:(Value.nilFunc).cells.toList=[.nilFunc]:=wH rfl rfl
theorem e0u (c:Nat):Nat.beq c (c+1)=false:=Y2 _ _ zy
theorem d9N (c):Nat.beq (c+1) c=false:=Y2 _ _ zy
theorem d8M (c:Nat):Nat.beq c (c+1+1)=false:=Y2 _ _ zy
theorem e3C (c):Nat.beq (c+1+1) c=false:=Y2 _ _ zy
theorem e0K (c:Nat):Nat.beq c (c+1+1+1)=false:=Y2 _ _ zy
theorem d8H (c):Nat.beq (c+1+1+1) c=false:=Y2 _ _ zy
theorem e3d (c:Nat):Nat.beq c (c+1+1+1+1)=false:=Y2 _ _ zy
theorem d9X (c):Nat.beq (c+1+1+1+1) c=false:=Y2 _ _ zy
theorem d9W (c:Nat):Nat.beq c (c+1+1+1+1+1)=false:=Y2 _ _ zy
theorem e0E (c):Nat.beq (c+1+1+1+1+1) c=false:=Y2 _ _ zy
theorem d9Z (c:Nat):Nat.beq c (c+1+1+1+1+1+1)=false:=Y2 _ _ zy
theorem d8L (c):Nat.beq (c+1+1+1+1+1+1) c=false:=Y2 _ _ zy
theorem e3a (c:Nat):Nat.beq c (c+1+1+1+1+1+1+1)=false:=Y2 _ _ zy
theorem d9B (c):Nat.beq (c+1+1+1+1+1+1+1) c=false:=Y2 _ _ zy
theorem d8N (c:Nat):Nat.beq c (c+1+1+1+1+1+1+1+1)=false:=Y2 _ _ zy
theorem e1b (c):Nat.beq (c+1+1+1+1+1+1+1+1) c=false:=Y2 _ _ zy
theorem e3D (c:Nat):Nat.beq c (c+1+1+1+1+1+1+1+1+1)=false:=Y2 _ _ zy
theorem e0W (c):Nat.beq (c+1+1+1+1+1+1+1+1+1) c=false:=Y2 _ _ zy
theorem d4U (c:Nat):Nat.beq c (c+1+1+1+1+1+1+1+1+1+1)=false:=Y2 _ _ zy
theorem d5B (c):Nat.beq (c+1+1+1+1+1+1+1+1+1+1) c=false:=Y2 _ _ zy
theorem d5q (c:Nat):Nat.beq c (c+1+1+1+1+1+1+1+1+1+1+1)=false:=Y2 _ _ zy
theorem d5a (c):Nat.beq (c+1+1+1+1+1+1+1+1+1+1+1) c=false:=Y2 _ _ zy
theorem d4M (c:Nat):Nat.beq c (c+1+1+1+1+1+1+1+1+1+1+1+1)=false:=Y2 _ _ zy
theorem d5I (c):Nat.beq (c+1+1+1+1+1+1+1+1+1+1+1+1) c=false:=Y2 _ _ zy
theorem d4u (c:Nat):Nat.beq c (c+1+1+1+1+1+1+1+1+1+1+1+1+1)=false:=Y2 _ _ zy
theorem d5G (c):Nat.beq (c+1+1+1+1+1+1+1+1+1+1+1+1+1) c=false:=Y2 _ _ zy
theorem d6g (c:Nat):Nat.beq c (c+1+1+1+1+1+1+1+1+1+1+1+1+1+1)=false:=Y2 _ _ zy
theorem d6f (c):Nat.beq (c+1+1+1+1+1+1+1+1+1+1+1+1+1+1) c=false:=Y2 _ _ zy
theorem c8k:a3T []=some []:=wH rfl rfl
theorem b4T (s vs):a3T (.string s::vs)=oS (a3T vs) λl=>some (s.data.toList::l):=by grind[a3T,oS]
theorem b7w (sep x l):a4S sep (x::l)=E5 x (a4y sep l):=wH rfl rfl
theorem b3I (sep):a4y sep []=[]:=wH rfl rfl
theorem a9L (sep x l):a4y sep (x::l)=E5 sep (E5 x (a4y sep l)):=wH rfl rfl
theorem c2L (b o g n sep):go (a8o [.slice (some ⟨b,o,some g⟩) (n+1) 1,.string sep]) ⟨c,h,r,w⟩=ldS (Nat.blt b c) (h.get b) o g (n+1) λvs=>oS (a3T vs) λxs=>bcase (Nat.blt n 4294967295&&Nat.blt (z8 (a4S sep.data.toList xs)) 4294967296) (some (.string ⟨⟨a4S sep.data.toList xs⟩⟩,⟨c,h,b::r,w⟩)) none:=by show go (M.bind (loadN ⟨b,o,some g⟩ (n+1)) λvs=>M.obind (a3T vs) λxs=>M.guard (Nat.blt n 4294967295&&Nat.blt (z8 (a4S sep.data.toList xs)) 4294967296)<|M.pure (Value.string ⟨⟨a4S sep.data.toList xs⟩⟩)) _=_;rw[J8,a1n];refine(b8k _ _ _ _ _ _ (λx=>R6 x λvs=>M.obind (a3T vs) λxs=>M.guard (Nat.blt n 4294967295&&Nat.blt (z8 (a4S sep.data.toList xs)) 4294967296)<|M.pure (Value.string ⟨⟨a4S sep.data.toList xs⟩⟩)) rfl).trans ?_;congr 1;funext vs;show go (M.obind (a3T vs) λxs=>M.guard (Nat.blt n 4294967295&&Nat.blt (z8 (a4S sep.data.toList xs)) 4294967296)<|M.pure (Value.string ⟨⟨a4S sep.data.toList xs⟩⟩)) _=_;cases a3T vs with|none=>rfl|some xs=>rw[F6,a1I];cases Nat.blt n 4294967295&&Nat.blt (z8 (a4S sep.data.toList xs)) 4294967296<;>rfl
theorem c1N (f:Nat)(a b vs):b1x (.func (.func f) a b) vs=some (f,E5 a.toList (E5 vs b.toList)):=wH rfl rfl
end Go.V
end
section
namespace Go.V
theorem dy {p:Prop}(h:p:=by first|assumption|omega|(simp only[e0u,d9N,d8M,e3C,e0K,d8H,e3d,d9X,d9W,e0E,d9Z,d8L,e3a,d9B,d8N,e1b,e3D,e0W,d4U,d5B,d5q,d5a,d4M,d5I,d4u,d5G,d6g,d6f,b5h,b3d,Nat.reduceMul,Nat.reduceLT,U5,a7t,b0h,a8P,a5j,a7y,a5B,a8O,a2W,uS,rz,sP,uK,uX,a0Y,a6v,vY,Nat.reduceAdd,P9,a7v,Nat.reduceBEq,P7,P6,a7I,a3S,a6E,a4P,a4p,a5r,a2G,a6l,b7j,b7e,b6k,c1Y,c3f,a3H,a3a,b0Q,a2r,a5J,T9,b0G,a9m,a3D,IntKind.bits,a0g,a4M,a5e]<;>omega)):p:=h
theorem dx {p:Prop}(h:p:=by first|assumption|omega|(simp only[U5,a7t,b0h,a8P,a5j,a7y,a5B,a8O,a2W,uS,rz,sP,uK,uX,a0Y,a6v,vY,Nat.reduceAdd,P9,a7v,Nat.reduceBEq,P7,P6,a7I,a3S,a6E,a4P,a4p,a5r,a2G,a6l,b7j,b7e,b6k,c1Y,c3f,a3H,a3a,b0Q,a2r,a5J,T9,b0G,a9m,a3D,IntKind.bits,a0g,a4M,a5e]<;>omega)):p:=h
abbrev gD:=mr @wB.{0,0}<|mr @tY<|mr @D8<|mr @A8<|mr @b7j<|mr @b7e<|mr @b6k<|mr @rz<|mr @c1N<|mr @a0Y<|mr @a6v<|mr @I1<|mr @d0U<|mr @b5t<|mr @c4B<|mr @c5l<|mr @c8k<|mr @b4T<|mr @b7w<|mr @b3I<|mr @a9L<|mr @c2L<|mr @O5<|mr @U0<|mr @V6<|mr @a6s<|mr @J8<|mr @J5<|mr @Z8<|mr @I8<|mr @a0q<|mr @P5<|mr @b0X<|mr @a4M<|mr @a5e<|mr @X3<|mr @Y0<|mr @J9<|mr @G5<|mr @V.e8n<|mr @F6<|mr @P8<|mr @R9<|mr @a4G<|mr @Q6<|mr @a5E<|mr @b1V<|mr @a3S<|mr @a4P<|mr @a5r<|mr @a9y<|mr @a9S<|mr @b2i<|mr @a8p<|mr @a7k<|mr @U5<|mr @a7t<|mr @a5j<|mr @uX<|mr @a1F<|mr @a2A<|mr @a6A<|mr @a3U<|mr @b0q<|mr @a9P<|mr @a0c<|mr @a1I<|mr @a4C<|mr @o7<|mr @d9<|mr @a3K<|mr @a4L<|mr @a0f<|mr @a7G<|mr @a1E<|mr @a0e<|mr @vY<|mr @vC<|mr @a4x<|mr @a2i<|mr @a2F<|mr @b8h<|mr @b2s<|mr @I9<| @uS
end Go.V
end
namespace Go.Proofs.YtmomonnlmbljoaaGreatDoor
open Go.V Go.RowKit Go.Shelf Go.Proofs
variable {mL:Int}
section
noncomputable def b0M (i:TypeInfo)(u:TypeDesc):TI:=⟨u,i.size,i.bytes,i.zero.getD undef⟩
noncomputable abbrev T_ (i:TypeInfo):TI:=b0M i i.desc
noncomputable abbrev U_ (i j:TypeInfo):TI:=b0M i j.desc
abbrev n_ {α:Type}(x:α)(l r:Trie α):Trie α:=.node (some x) l r
abbrev e_ {α:Type}(x:α):Trie α:=n_ x .leaf .leaf
noncomputable def ti3:TI:=b0M Tryz.t3 Tryz.t3.desc
noncomputable def ti9:TI:=b0M Tryz.t9 Tryz.t9.desc
noncomputable def d4o:TI:=b0M Tryz.t26 Tryz.t25.desc
noncomputable def b3o:TI:=b0M Tryz.t30 Tryz.t29.desc
noncomputable def b9T:TI:=b0M Tryz.t119 Tryz.t118.desc
noncomputable def b7r:TI:=b0M Tryz.t127 Tryz.t126.desc
noncomputable def d5M:TI:=b0M Tryz.t142 Tryz.t141.desc
noncomputable def b6g:TI:=b0M Tryz.t160 Tryz.t159.desc
noncomputable def b6Q:TI:=b0M Tryz.t175 Tryz.t174.desc
noncomputable def d3j:Trie TI:=n_ (T_ Tryz.t0) (n_ (T_ Tryz.t1) (n_ ti3 (n_ (T_ Tryz.t7) (n_ (T_ Tryz.t15) (n_ (T_ Tryz.t31) (n_ (T_ Tryz.t63) (n_ b7r (e_ (T_ Tryz.t255)) .leaf) (e_ (T_ Tryz.t191))) (n_ (T_ Tryz.t95) (e_ (T_ Tryz.t159)) (e_ (T_ Tryz.t223)))) (n_ (T_ Tryz.t47) (n_ (T_ Tryz.t79) (n_ (T_ Tryz.t143) (e_ (T_ Tryz.t271)) .leaf) (e_ (T_ Tryz.t207))) (n_ (T_ Tryz.t111) (e_ b6Q) (e_ (T_ Tryz.t239))))) (n_ (T_ Tryz.t23) (n_ (T_ Tryz.t39) (n_ (T_ Tryz.t71) (n_ (T_ Tryz.t135) (e_ (T_ Tryz.t263)) .leaf) (e_ (T_ Tryz.t199))) (n_ (T_ Tryz.t103) (e_ (T_ Tryz.t167)) (e_ (T_ Tryz.t231)))) (n_ (T_ Tryz.t55) (n_ (T_ Tryz.t87) (n_ (U_ Tryz.t151 Tryz.t150) (e_ (U_ Tryz.t279 Tryz.t5)) .leaf) (e_ (T_ Tryz.t215))) (n_ b9T (e_ (T_ Tryz.t183)) (e_ (T_ Tryz.t247)))))) (n_ (U_ Tryz.t11 Tryz.t9) (n_ (U_ Tryz.t19 Tryz.t18) (n_ (T_ Tryz.t35) (n_ (T_ Tryz.t67) (n_ (T_ Tryz.t131) (e_ (U_ Tryz.t259 Tryz.t258)) .leaf) (e_ (T_ Tryz.t195))) (n_ (T_ Tryz.t99) (e_ (T_ Tryz.t163)) (e_ (T_ Tryz.t227)))) (n_ (T_ Tryz.t51) (n_ (T_ Tryz.t83) (n_ (T_ Tryz.t147) (e_ (T_ Tryz.t275)) .leaf) (e_ (T_ Tryz.t211))) (n_ (T_ Tryz.t115) (e_ (T_ Tryz.t179)) (e_ (T_ Tryz.t243))))) (n_ (T_ Tryz.t27) (n_ (T_ Tryz.t43) (n_ (T_ Tryz.t75) (n_ (T_ Tryz.t139) (e_ (T_ Tryz.t267)) .leaf) (e_ (T_ Tryz.t203))) (n_ (T_ Tryz.t107) (e_ (U_ Tryz.t171 Tryz.t170)) (e_ (T_ Tryz.t235)))) (n_ (T_ Tryz.t59) (n_ (T_ Tryz.t91) (n_ (T_ Tryz.t155) (e_ (T_ Tryz.t283)) .leaf) (e_ (T_ Tryz.t219))) (n_ (T_ Tryz.t123) (e_ (T_ Tryz.t187)) (e_ (T_ Tryz.t251))))))) (n_ (T_ Tryz.t5) (n_ ti9 (n_ (T_ Tryz.t17) (n_ (T_ Tryz.t33) (n_ (T_ Tryz.t65) (n_ (U_ Tryz.t129 Tryz.t128) (e_ (T_ Tryz.t257)) .leaf) (e_ (T_ Tryz.t193))) (n_ (U_ Tryz.t97 Tryz.t96) (e_ (T_ Tryz.t161)) (e_ (T_ Tryz.t225)))) (n_ (T_ Tryz.t49) (n_ (T_ Tryz.t81) (n_ (T_ Tryz.t145) (e_ (T_ Tryz.t273)) .leaf) (e_ (T_ Tryz.t209))) (n_ (T_ Tryz.t113) (e_ (T_ Tryz.t177)) (e_ (T_ Tryz.t241))))) (n_ (T_ Tryz.t25) (n_ (U_ Tryz.t41 Tryz.t3) (n_ (T_ Tryz.t73) (n_ (U_ Tryz.t137 Tryz.t136) (e_ (U_ Tryz.t265 Tryz.t264)) .leaf) (e_ (T_ Tryz.t201))) (n_ (U_ Tryz.t105 Tryz.t104) (e_ (T_ Tryz.t169)) (e_ (T_ Tryz.t233)))) (n_ (T_ Tryz.t57) (n_ (T_ Tryz.t89) (n_ (U_ Tryz.t153 Tryz.t152) (e_ (U_ Tryz.t281 Tryz.t21)) .leaf) (e_ (T_ Tryz.t217))) (n_ (T_ Tryz.t121) (e_ (T_ Tryz.t185)) (e_ (T_ Tryz.t249)))))) (n_ (T_ Tryz.t13) (n_ (T_ Tryz.t21) (n_ (T_ Tryz.t37) (n_ (T_ Tryz.t69) (n_ (T_ Tryz.t133) (e_ (T_ Tryz.t261)) .leaf) (e_ (T_ Tryz.t197))) (n_ (T_ Tryz.t101) (e_ (T_ Tryz.t165)) (e_ (T_ Tryz.t229)))) (n_ (T_ Tryz.t53) (n_ (T_ Tryz.t85) (n_ (T_ Tryz.t149) (e_ (U_ Tryz.t277 Tryz.t276)) .leaf) (e_ (T_ Tryz.t213))) (n_ (U_ Tryz.t117 Tryz.t3) (e_ (T_ Tryz.t181)) (e_ (U_ Tryz.t245 Tryz.t244))))) (n_ (T_ Tryz.t29) (n_ (T_ Tryz.t45) (n_ (T_ Tryz.t77) (n_ (T_ Tryz.t141) (e_ (T_ Tryz.t269)) .leaf) (e_ (T_ Tryz.t205))) (n_ (T_ Tryz.t109) (e_ (T_ Tryz.t173)) (e_ (T_ Tryz.t237)))) (n_ (T_ Tryz.t61) (n_ (T_ Tryz.t93) (e_ (T_ Tryz.t157)) (e_ (T_ Tryz.t221))) (n_ (T_ Tryz.t125) (e_ (T_ Tryz.t189)) (e_ (T_ Tryz.t253)))))))) (n_ (T_ Tryz.t2) (n_ (T_ Tryz.t4) (n_ (U_ Tryz.t8 Tryz.t7) (n_ (T_ Tryz.t16) (n_ (T_ Tryz.t32) (n_ (T_ Tryz.t64) (n_ (T_ Tryz.t128) (e_ (T_ Tryz.t256)) .leaf) (e_ (T_ Tryz.t192))) (n_ (T_ Tryz.t96) (e_ b6g) (e_ (T_ Tryz.t224)))) (n_ (T_ Tryz.t48) (n_ (T_ Tryz.t80) (n_ (T_ Tryz.t144) (e_ (T_ Tryz.t272)) .leaf) (e_ (T_ Tryz.t208))) (n_ (T_ Tryz.t112) (e_ (T_ Tryz.t176)) (e_ (T_ Tryz.t240))))) (n_ (U_ Tryz.t24 Tryz.t3) (n_ (T_ Tryz.t40) (n_ (T_ Tryz.t72) (n_ (T_ Tryz.t136) (e_ (T_ Tryz.t264)) .leaf) (e_ (T_ Tryz.t200))) (n_ (T_ Tryz.t104) (e_ (T_ Tryz.t168)) (e_ (T_ Tryz.t232)))) (n_ (T_ Tryz.t56) (n_ (T_ Tryz.t88) (n_ (T_ Tryz.t152) (e_ (T_ Tryz.t280)) .leaf) (e_ (T_ Tryz.t216))) (n_ (T_ Tryz.t120) (e_ (T_ Tryz.t184)) (e_ (T_ Tryz.t248)))))) (n_ (T_ Tryz.t12) (n_ (T_ Tryz.t20) (n_ (T_ Tryz.t36) (n_ (T_ Tryz.t68) (n_ (T_ Tryz.t132) (e_ (T_ Tryz.t260)) .leaf) (e_ (T_ Tryz.t196))) (n_ (T_ Tryz.t100) (e_ (T_ Tryz.t164)) (e_ (T_ Tryz.t228)))) (n_ (T_ Tryz.t52) (n_ (T_ Tryz.t84) (n_ (T_ Tryz.t148) (e_ (T_ Tryz.t276)) .leaf) (e_ (T_ Tryz.t212))) (n_ (U_ Tryz.t116 Tryz.t115) (e_ (U_ Tryz.t180 Tryz.t179)) (e_ (T_ Tryz.t244))))) (n_ (T_ Tryz.t28) (n_ (T_ Tryz.t44) (n_ (U_ Tryz.t76 Tryz.t3) (n_ (T_ Tryz.t140) (e_ (T_ Tryz.t268)) .leaf) (e_ (T_ Tryz.t204))) (n_ (T_ Tryz.t108) (e_ (T_ Tryz.t172)) (e_ (T_ Tryz.t236)))) (n_ (U_ Tryz.t60 Tryz.t59) (n_ (U_ Tryz.t92 Tryz.t91) (n_ (T_ Tryz.t156) (e_ (U_ Tryz.t284 Tryz.t283)) .leaf) (e_ (T_ Tryz.t220))) (n_ (T_ Tryz.t124) (e_ (T_ Tryz.t188)) (e_ (T_ Tryz.t252))))))) (n_ (U_ Tryz.t6 Tryz.t5) (n_ (U_ Tryz.t10 Tryz.t9) (n_ (T_ Tryz.t18) (n_ (T_ Tryz.t34) (n_ (T_ Tryz.t66) (n_ (T_ Tryz.t130) (e_ (T_ Tryz.t258)) .leaf) (e_ (T_ Tryz.t194))) (n_ (T_ Tryz.t98) (e_ (T_ Tryz.t162)) (e_ (T_ Tryz.t226)))) (n_ (T_ Tryz.t50) (n_ (T_ Tryz.t82) (n_ (T_ Tryz.t146) (e_ (U_ Tryz.t274 Tryz.t273)) .leaf) (e_ (T_ Tryz.t210))) (n_ (T_ Tryz.t114) (e_ (T_ Tryz.t178)) (e_ (T_ Tryz.t242))))) (n_ d4o (n_ (T_ Tryz.t42) (n_ (T_ Tryz.t74) (n_ (T_ Tryz.t138) (e_ (T_ Tryz.t266)) .leaf) (e_ (T_ Tryz.t202))) (n_ (T_ Tryz.t106) (e_ (T_ Tryz.t170)) (e_ (T_ Tryz.t234)))) (n_ (T_ Tryz.t58) (n_ (T_ Tryz.t90) (n_ (T_ Tryz.t154) (e_ (U_ Tryz.t282 Tryz.t21)) .leaf) (e_ (T_ Tryz.t218))) (n_ (T_ Tryz.t122) (e_ (T_ Tryz.t186)) (e_ (T_ Tryz.t250)))))) (n_ (U_ Tryz.t14 Tryz.t13) (n_ (U_ Tryz.t22 Tryz.t3) (n_ (T_ Tryz.t38) (n_ (T_ Tryz.t70) (n_ (T_ Tryz.t134) (e_ (U_ Tryz.t262 Tryz.t261)) .leaf) (e_ (T_ Tryz.t198))) (n_ (T_ Tryz.t102) (e_ (U_ Tryz.t166 Tryz.t165)) (e_ (T_ Tryz.t230)))) (n_ (U_ Tryz.t54 Tryz.t53) (n_ (T_ Tryz.t86) (n_ (T_ Tryz.t150) (e_ (U_ Tryz.t278 Tryz.t5)) .leaf) (e_ (T_ Tryz.t214))) (n_ (T_ Tryz.t118) (e_ (U_ Tryz.t182 Tryz.t181)) (e_ (T_ Tryz.t246))))) (n_ b3o (n_ (T_ Tryz.t46) (n_ (T_ Tryz.t78) (n_ d5M (e_ (T_ Tryz.t270)) .leaf) (e_ (T_ Tryz.t206))) (n_ (T_ Tryz.t110) (e_ (T_ Tryz.t174)) (e_ (T_ Tryz.t238)))) (n_ (T_ Tryz.t62) (n_ (T_ Tryz.t94) (e_ (T_ Tryz.t158)) (e_ (T_ Tryz.t222))) (n_ (T_ Tryz.t126) (e_ (U_ Tryz.t190 Tryz.t189)) (e_ (T_ Tryz.t254))))))))
noncomputable def d1F:Trie Func:=n_ Tryz.f0 (n_ Tryz.f1 (n_ Tryz.f3 (n_ Tryz.f7 (n_ Tryz.f15 (n_ Tryz.f31 (n_ Tryz.f63 (e_ Tryz.f127) (e_ Tryz.f191)) (n_ Tryz.f95 (e_ Tryz.f159) (e_ Tryz.f223))) (n_ Tryz.f47 (n_ Tryz.f79 (e_ Tryz.f143) (e_ Tryz.f207)) (n_ Tryz.f111 (e_ Tryz.f175) (e_ Tryz.f239)))) (n_ Tryz.f23 (n_ Tryz.f39 (n_ Tryz.f71 (e_ Tryz.f135) (e_ Tryz.f199)) (n_ Tryz.f103 (e_ Tryz.f167) (e_ Tryz.f231))) (n_ Tryz.f55 (n_ Tryz.f87 (e_ Tryz.f151) (e_ Tryz.f215)) (n_ Tryz.f119 (e_ Tryz.f183) (e_ Tryz.f247))))) (n_ Tryz.f11 (n_ Tryz.f19 (n_ Tryz.f35 (n_ Tryz.f67 (e_ Tryz.f131) (e_ Tryz.f195)) (n_ Tryz.f99 (e_ Tryz.f163) (e_ Tryz.f227))) (n_ Tryz.f51 (n_ Tryz.f83 (e_ Tryz.f147) (e_ Tryz.f211)) (n_ Tryz.f115 (e_ Tryz.f179) (e_ Tryz.f243)))) (n_ Tryz.f27 (n_ Tryz.f43 (n_ Tryz.f75 (e_ Tryz.f139) (e_ Tryz.f203)) (n_ Tryz.f107 (e_ Tryz.f171) (e_ Tryz.f235))) (n_ Tryz.f59 (n_ Tryz.f91 (e_ Tryz.f155) (e_ Tryz.f219)) (n_ Tryz.f123 (e_ Tryz.f187) .leaf))))) (n_ Tryz.f5 (n_ Tryz.f9 (n_ Tryz.f17 (n_ Tryz.f33 (n_ Tryz.f65 (e_ Tryz.f129) (e_ Tryz.f193)) (n_ Tryz.f97 (e_ Tryz.f161) (e_ Tryz.f225))) (n_ Tryz.f49 (n_ Tryz.f81 (e_ Tryz.f145) (e_ Tryz.f209)) (n_ Tryz.f113 (e_ Tryz.f177) (e_ Tryz.f241)))) (n_ Tryz.f25 (n_ Tryz.f41 (n_ Tryz.f73 (e_ Tryz.f137) (e_ Tryz.f201)) (n_ Tryz.f105 (e_ Tryz.f169) (e_ Tryz.f233))) (n_ Tryz.f57 (n_ Tryz.f89 (e_ Tryz.f153) (e_ Tryz.f217)) (n_ Tryz.f121 (e_ Tryz.f185) .leaf)))) (n_ Tryz.f13 (n_ Tryz.f21 (n_ Tryz.f37 (n_ Tryz.f69 (e_ Tryz.f133) (e_ Tryz.f197)) (n_ Tryz.f101 (e_ Tryz.f165) (e_ Tryz.f229))) (n_ Tryz.f53 (n_ Tryz.f85 (e_ Tryz.f149) (e_ Tryz.f213)) (n_ Tryz.f117 (e_ Tryz.f181) (e_ Tryz.f245)))) (n_ Tryz.f29 (n_ Tryz.f45 (n_ Tryz.f77 (e_ Tryz.f141) (e_ Tryz.f205)) (n_ Tryz.f109 (e_ Tryz.f173) (e_ Tryz.f237))) (n_ Tryz.f61 (n_ Tryz.f93 (e_ Tryz.f157) (e_ Tryz.f221)) (n_ Tryz.f125 (e_ Tryz.f189) .leaf)))))) (n_ Tryz.f2 (n_ Tryz.f4 (n_ Tryz.f8 (n_ Tryz.f16 (n_ Tryz.f32 (n_ Tryz.f64 (e_ Tryz.f128) (e_ Tryz.f192)) (n_ Tryz.f96 (e_ Tryz.f160) (e_ Tryz.f224))) (n_ Tryz.f48 (n_ Tryz.f80 (e_ Tryz.f144) (e_ Tryz.f208)) (n_ Tryz.f112 (e_ Tryz.f176) (e_ Tryz.f240)))) (n_ Tryz.f24 (n_ Tryz.f40 (n_ Tryz.f72 (e_ Tryz.f136) (e_ Tryz.f200)) (n_ Tryz.f104 (e_ Tryz.f168) (e_ Tryz.f232))) (n_ Tryz.f56 (n_ Tryz.f88 (e_ Tryz.f152) (e_ Tryz.f216)) (n_ Tryz.f120 (e_ Tryz.f184) (e_ Tryz.f248))))) (n_ Tryz.f12 (n_ Tryz.f20 (n_ Tryz.f36 (n_ Tryz.f68 (e_ Tryz.f132) (e_ Tryz.f196)) (n_ Tryz.f100 (e_ Tryz.f164) (e_ Tryz.f228))) (n_ Tryz.f52 (n_ Tryz.f84 (e_ Tryz.f148) (e_ Tryz.f212)) (n_ Tryz.f116 (e_ Tryz.f180) (e_ Tryz.f244)))) (n_ Tryz.f28 (n_ Tryz.f44 (n_ Tryz.f76 (e_ Tryz.f140) (e_ Tryz.f204)) (n_ Tryz.f108 (e_ Tryz.f172) (e_ Tryz.f236))) (n_ Tryz.f60 (n_ Tryz.f92 (e_ Tryz.f156) (e_ Tryz.f220)) (n_ Tryz.f124 (e_ Tryz.f188) .leaf))))) (n_ Tryz.f6 (n_ Tryz.f10 (n_ Tryz.f18 (n_ Tryz.f34 (n_ Tryz.f66 (e_ Tryz.f130) (e_ Tryz.f194)) (n_ Tryz.f98 (e_ Tryz.f162) (e_ Tryz.f226))) (n_ Tryz.f50 (n_ Tryz.f82 (e_ Tryz.f146) (e_ Tryz.f210)) (n_ Tryz.f114 (e_ Tryz.f178) (e_ Tryz.f242)))) (n_ Tryz.f26 (n_ Tryz.f42 (n_ Tryz.f74 (e_ Tryz.f138) (e_ Tryz.f202)) (n_ Tryz.f106 (e_ Tryz.f170) (e_ Tryz.f234))) (n_ Tryz.f58 (n_ Tryz.f90 (e_ Tryz.f154) (e_ Tryz.f218)) (n_ Tryz.f122 (e_ Tryz.f186) .leaf)))) (n_ Tryz.f14 (n_ Tryz.f22 (n_ Tryz.f38 (n_ Tryz.f70 (e_ Tryz.f134) (e_ Tryz.f198)) (n_ Tryz.f102 (e_ Tryz.f166) (e_ Tryz.f230))) (n_ Tryz.f54 (n_ Tryz.f86 (e_ Tryz.f150) (e_ Tryz.f214)) (n_ Tryz.f118 (e_ Tryz.f182) (e_ Tryz.f246)))) (n_ Tryz.f30 (n_ Tryz.f46 (n_ Tryz.f78 (e_ Tryz.f142) (e_ Tryz.f206)) (n_ Tryz.f110 (e_ Tryz.f174) (e_ Tryz.f238))) (n_ Tryz.f62 (n_ Tryz.f94 (e_ Tryz.f158) (e_ Tryz.f222)) (n_ Tryz.f126 (e_ Tryz.f190) .leaf))))))
noncomputable def tab:Tab:=⟨d3j,d1F,7⟩
set_option maxRecDepth 100000
theorem V7:TabOk Tryz.prog tab:=d2x zw zw zw zw
theorem M9:Tryz.prog.follows .mixedOrders=true:=zw
end
end Go.Proofs.YtmomonnlmbljoaaGreatDoor
