import Derived.Laws.Cells
import Derived.Below
import Derived.Laws.AppendOwn
import Derived.Laws.Tables
import Derived.Great.BuildSlice
import Derived.Lib.IndexBytes
import Derived.Laws.BytesString
import Derived.Orders
import Derived.LoopN
import Derived.RangeFuncKeeps
import Derived.Lib.Fields
import Derived.KernelRfl
import Derived.Laws.StructEq
import Derived.Lib.IndexMore
import Derived.Lib.Join
import Derived.Lib.Repeat
import Derived.Shelf.LaysM
import Derived.Shelf.Strings.Fields
import Derived.Shelf.Strings.OnBuilder
import Derived.Shelf.Strings.Repeat
import Derived.Shelf.Strings.Search3
import Derived.Shelf.Spec.BitsCarry
import Derived.Shelf.Strconv.Itoa4
import Derived.Ground.NamesProg
import Derived.RangeFuncWrites
import Derived.RangeFuncLeaves
import Derived.Shelf.Abstract
import Derived.WalkKit
import Derived.OwnWalkIn
import Derived.TacticsInMore
import Derived.Shelf.Bits.Mul64
import Derived.Lib.AppendIntMem
import Derived.ProofKit
import Derived.Deep.Slices
import Derived.Lib.ItoaNum
import Derived.OpenShut
import Derived.Handed
import Derived.HandedShaped
import Derived.LaidLaws
import Derived.Lay
import Derived.JoinedOf
import Derived.SevenTiedAt
import Derived.Deep.DeepHandedRow
import Derived.Deep.DeepWitnessRowRef
import GoSem.Step
set_option maxRecDepth 1000000
set_option maxHeartbeats 4000000
set_option linter.unusedVariables false
set_option linter.unusedSimpArgs false
namespace Go
abbrev xS:=@Nat.eq_of_beq_eq_true
abbrev xR:=@Nat.le_refl
abbrev xQ:=@List.getElem?_eq_some_iff
abbrev xP:=@List.getElem?_eq_getElem
abbrev xO:=@decide_eq_false
abbrev xM:=@Bool.and_eq_true
abbrev xL:=@decide_eq_true
abbrev xK:=@Eq.trans
abbrev xJ:=@List.append_nil
abbrev xI:=@Nat.lt_of_lt_of_le
abbrev xH:=@List.length_cons
abbrev xG:=@Nat.lt_succ_self
abbrev xF:=@List.length_map
abbrev xE:=@List.length_append
abbrev xD:=@Go.Result.andThen_ok
abbrev xC:=@congrArg
abbrev wz:=@Int.ofNat_eq_natCast
abbrev wy:=@Nat.le_succ
abbrev wx:=@List.mem_singleton
abbrev ww:=@List.getElem?_eq_none
abbrev wv:=@Go.Sem.run_bind
abbrev wu:=@decide_eq_false_iff_not
abbrev wt:=@Nat.zero_add
abbrev wq:=@List.append_assoc
abbrev wo:=@List.getElem?_append_right
abbrev wm:=@Nat.add_right_comm
abbrev wk:=@Nat.le_of_ble_eq_true
abbrev wj:=@of_decide_eq_true
abbrev wh:=@List.getElem?_append_left
abbrev wg:=@Nat.le_trans
abbrev we:=@List.mem_of_getElem?
abbrev wc:=@List.getElem?_map
abbrev wb:=@Go.Sem.run_pure
abbrev wa:=@decide_eq_true_eq
abbrev wZ:=@Bool.false_or
abbrev wY:=@List.mem_cons_of_mem
abbrev wX:=@if_neg
abbrev wW:=@List.flatMap_cons
abbrev wV:=@Nat.add_zero
abbrev wU:=@List.mem_append
abbrev wT:=@if_pos
abbrev wR:=@Nat.zero_le
abbrev wQ:=@List.nil_append
abbrev wP:=@List.length_eq_zero_iff
abbrev wO:=@List.cons_append
abbrev wM:=@List.length_drop
abbrev wL:=@Bool.false_eq_true
abbrev wK:=@Nat.lt_or_ge
abbrev wJ:=@List.map_append
abbrev wI:=@Nat.mul_one
abbrev wH:=@List.mem_cons_self
abbrev wG:=@List.mem_cons
abbrev wF:=@List.length_nil
abbrev wE:=@List.ext_getElem?
abbrev wD:=@Nat.lt_irrefl
abbrev wC:=@Int.ofNat_lt
abbrev wB:=@Nat.blt_eq
abbrev wA:=@List.length_reverse
abbrev vz:=@Bool.and_self
abbrev vw:=@Bool.true_or
abbrev vv:=@List.flatMap_append
abbrev vu:=@Array.length_toList
abbrev vt:=@Bool.not_false
abbrev vr:=@List.getElem?_drop
abbrev vq:=@Nat.lt_of_le_of_lt
abbrev vp:=@of_decide_eq_false
abbrev vo:=@List.getElem_mem
abbrev vj:=@Bool.true_and
abbrev vi:=@Nat.add_sub_cancel_left
abbrev vh:=@List.map_cons
abbrev vg:=@Bool.false_and
abbrev vd:=@List.mem_range
abbrev vZ:=@Go.World.cell?_setCell_same'
abbrev vY:=@List.getElem?_take
abbrev vX:=@Nat.mod_eq_of_lt
abbrev vW:=@Nat.zero_mul
abbrev vV:=@List.length_take
abbrev vU:=@decide_true
abbrev vT:=@List.getElem?_cons_succ
abbrev vS:=@Bool.not_eq_true'
abbrev vR:=@Go.cell_kept
abbrev vQ:=@Option.some.inj
abbrev vP:=@decide_false
abbrev vN:=@if_false
abbrev vM:=@Bool.and_false
abbrev vK:=@List.drop_zero
abbrev vJ:=@Nat.add_mul
abbrev vI:=@Option.isSome_iff_exists
abbrev vH:=@Go.World.cell?_of_block
abbrev vG:=@List.map_map
abbrev vF:=@Nat.lt_trans
abbrev vE:=@Bool.or_eq_false_iff
abbrev vD:=@Go.KeepsOthers.setCell
abbrev vC:=@Go.DataW.trod_int
abbrev vB:=@Nat.and_le_right
abbrev vA:=@List.flatMap_singleton
abbrev uz:=@List.take_of_length_le
abbrev uy:=@List.mem_map
abbrev ux:=@Nat.ble_eq_true_of_le
abbrev uv:=@List.mem_iff_getElem?
abbrev uu:=@Bool.and_true
abbrev ut:=@Bool.not_true
abbrev ur:=@Int.ofNat.inj
abbrev uq:=@Nat.add_assoc
abbrev um:=@List.size_toArray
abbrev ul:=@List.drop_eq_getElem_cons
abbrev uk:=@Array.getElem?_eq_getElem
abbrev uj:=@List.length_dropLast
abbrev ui:=@Nat.pow_add
abbrev uh:=@List.flatMap_nil
abbrev uf:=@Nat.mul_zero
abbrev uZ:=@Array.toList_append
abbrev uY:=@Nat.eq_zero_or_pos
abbrev uX:=@Go.RowKit.Below.refl
abbrev uW:=@Go.grownBy_putObj'
abbrev uV:=@Array.toList_replicate
abbrev uU:=@Nat.ne_of_beq_eq_false
abbrev uT:=@List.eq_nil_of_length_eq_zero
abbrev uS:=@Array.getElem?_modify
abbrev uR:=@List.singleton_append
abbrev uQ:=@Array.getD_eq_getD_getElem?
abbrev uP:=@List.all_eq_true
abbrev uO:=@Array.size_replicate
abbrev uM:=@Array.getElem?_eq_some_iff
abbrev uL:=@Bool.or_eq_true
abbrev uK:=@List.getElem?_eq_none_iff
abbrev uJ:=@Nat.sub_zero
abbrev uI:=@List.reverse_cons
abbrev uH:=@List.getElem?_set
abbrev uG:=@Nat.lt_succ_of_lt
abbrev uF:=@Go.World.frozen?_of_block
abbrev uE:=@List.drop_eq_nil_of_le
abbrev uD:=@Array.getElem?_eq_none
abbrev uC:=@List.drop_of_length_le
abbrev tt:=@List.all_cons
abbrev tq:=@Nat.le_add_right
abbrev tp:=@List.range'_succ
abbrev tn:=@Array.all_eq_true_iff_forall_mem
abbrev tj:=@Go.run_takeDeferred
abbrev tg:=@Array.getElem?_toList
abbrev tf:=@if_true
abbrev td:=@List.dropLast_eq_take
abbrev tc:=@Bool.or_self
abbrev tZ:=@List.drop_eq_nil_iff
abbrev tY:=@Option.map_some
abbrev tX:=@List.range_eq_range'
abbrev tW:=@Go.callsIn_wide
abbrev tV:=@Array.replicate_succ
abbrev tU:=@Array.replicate_zero
abbrev tT:=@Nat.pow_le_pow_right
abbrev tS:=@List.getElem?_mapIdx
abbrev tR:=@Nat.and_two_pow_sub_one_eq_mod
abbrev tQ:=@Nat.succ_pos
abbrev tP:=@List.dropLast_append_of_ne_nil
abbrev tO:=@Int.ofNat_le
abbrev tN:=@List.take_append_of_le_length
abbrev tM:=@List.getElem_of_mem
abbrev tL:=@Nat.add_sub_cancel'
abbrev tK:=@List.append_toArray
abbrev tJ:=@Ne.symm
abbrev tI:=@Array.getElem?_setIfInBounds
abbrev tH:=@List.drop_drop
abbrev tG:=@Nat.le_zero
abbrev tF:=@List.find?_eq_none
abbrev tE:=@Go.run_loadCells_list
abbrev tD:=@Nat.add_sub_cancel
abbrev tC:=@Nat.eq_of_mul_eq_mul_right
abbrev tB:=@Go.ownFrom_below
abbrev tA:=@Nat.lt_trichotomy
abbrev sy:=@List.push_toArray
abbrev sx:=@Go.World.cell?_setCell_other
abbrev sw:=@Array.ext'
abbrev ss:=@Array.getElem?_push_size
abbrev sr:=@Nat.le_of_not_lt
abbrev sq:=@Bool.or_true
abbrev sn:=@decide_eq_decide
abbrev sk:=@List.not_mem_nil
abbrev sj:=@List.getElem?_cons_zero
abbrev si:=@Go.Input.okWide_of_okWideB
abbrev sf:=@UInt8.toNat_inj
abbrev se:=@Go.Oper.semAt_none
abbrev sZ:=@Nat.div_le_self
abbrev sY:=@Nat.min_eq_left
abbrev sX:=@Go.Proofs.enters_of
abbrev sW:=@List.find?_cons
abbrev sV:=@Nat.div_one
abbrev sU:=@Go.frozen_kept
abbrev sT:=@Go.OwnFrom.and
abbrev sS:=@Go.wp_loop_rounds
abbrev sR:=@Go.run_newObj
abbrev sQ:=@Nat.mod_lt
abbrev sP:=@Go.wp_cond_false
abbrev sO:=@List.map_take
theorem zy{p:Prop}(h:p:=by omega):p:=h
theorem zw{p:Prop}(h:p:=by kernel_rfl):p:=h
theorem zv{p:Prop}(h:p:=by decide):p:=h
theorem zu{p:Prop}(h:p:=by simp):p:=h
theorem zr{p:Prop}(h:p:=by grind):p:=h
theorem zq{p:Prop}(h:p:=by simp_all):p:=h
theorem zp{p:Prop}(h:p:=by intro q;cases q):p:=h
theorem zo{p:Prop}(h:p:=by simp;omega):p:=h
theorem zn{p:Prop}(h:p:=by cases e):p:=h
theorem zm{p:Prop}(h:p:=by cases b<;>rfl):p:=h
theorem zl{p:Prop}(h:p:=by cases h):p:=h
theorem zk{p:Prop}(h:p:=by cases q):p:=h
theorem zj{p:Prop}(h:p:=by cases e;rfl):p:=h
theorem zi{p:Prop}(h:p:=by simpa using hi):p:=h
theorem zg{p:Prop}(h:p:=by simpa using e0):p:=h
theorem ze{p:Prop}(h:p:=by rw[hj];omega):p:=h
theorem zd{p:Prop}(h:p:=by rw[h];simp):p:=h
theorem zc{p:Prop}(h:p:=by dsimp only;omega):p:=h
theorem zb{p:Prop}(h:p:=by simp at hk;omega):p:=h
theorem za{p:Prop}(h:p:=by simp(maxSteps:=9999999) (disch:=try exact dx)only[c9]):p:=h
theorem zZ{p:Prop}(h:p:=by rw[wu];omega):p:=h
theorem zY{p:Prop}(h:p:=by rw[wa];omega):p:=h
theorem zX{p:Prop}(h:p:=by have:=hUc _ hi;omega):p:=h
theorem zW{p:Prop}(h:p:=by rw[fA,fB,fN,fl];rfl):p:=h
theorem zV{p:Prop}(h:p:=by dsimp only;omega):p:=h
theorem zU{p:Prop}(h:p:=by have:=wC.1 h;omega):p:=h
theorem zT{p:Prop}(h:p:=by rw[q,Q9 hk (by unfold a0s;rw[hA];rfl)]):p:=h
theorem zS{p:Prop}(h:p:=by rw[hs c zy zy zy];simp(disch:=first|assumption|omega)only[c9,d9]):p:=h
theorem zR{p:Prop}(h:p:=by rw[hs j zy zy k2];simp(disch:=first|assumption|omega)only[c9]):p:=h
theorem zQ{p:Prop}(h:p:=by have:=xC List.length hd;simp at this;omega):p:=h
theorem zP{p:Prop}(h:p:=by have:=xC List.tail hd;simpa using this):p:=h
theorem zO{p:Prop}(h:p:=by obtain⟨z,h34'⟩:=h34 (O2 h c (.cells [(.int .i64 X.op,0),(.int .i64 X.A,0),(.int .i64 X.B,0),(.int .u64 (Int.ofNat X.N),0),(.int .i64 X.k,0),(.int .i64 X.v,0),(.int .i64 X.i,0),(tv,0),(lv,0)] 0 false)) (λb hb=>c9 zy);obtain⟨h35,h39,h36,h36',h37c,h37,h37',h38,h44,h96⟩:=C;obtain⟨ta,te,rfl,_⟩:=id Ht;obtain⟨la,le,rfl,_⟩:=id Hl;simp only[o8,hA,hB,xF]at h34';have nl:=K8 X.op;have l1:=C2 a zy;have l2:=C2 b zy;have q1:=h37 a zy;have q2:=h37' b zy;have q3:=h37' a zy;have q4:=h37c a zy;simp(maxSteps:=9999999) (disch:=try exact dy)only[gD,T3,a1N,U4,T9,o8,hA,hB,h34',h35,h39,h36,h38,h44,h96,q1,I2,Nat.reduceMul,ap9,Nat.reduceAdd];exact d8.done ⟨by simp only[I8,v8,xJ],λi hi=>by simp(maxSteps:=9999999) (disch:=try exact dy)only[c9]⟩):p:=h
theorem zN{p:Prop}(h:p:=by obtain⟨o,A,B,N,k,v,bi,ts,ls⟩:=X;obtain⟨⟨a,hA,hA1,hA2⟩,⟨b,hB,hB1,hB2⟩,hN2,hN3,hb,ht,hl,hr⟩:=H;simp only at ho hA hB hN2 hN3 hb ht hl hr hN;subst ho;subst hA;subst hB;obtain⟨rfl,rfl,rfl⟩:=hb zv;obtain rfl:=ht zv;obtain rfl:=hl zv;obtain rfl:=hB2 rfl;obtain rfl:=hN2 rfl;exact⟨⟨op,a,0,0,0,0,0,[],[]⟩,[.w (Lib.decDigits a)],.one hi zv hA1,rfl,by show S.spNum a=_;simp[S.spNum,It.b],rfl⟩):p:=h
theorem zM{p:Prop}(h:p:=by have:=xC (λt=>t[0]?) hd;simpa using this):p:=h
theorem zL{p:Prop}(h:p:=by rw[a0d 3 bs.length (bs.length+1) k ab 0 (some g2) (xG _) zv,a7R]):p:=h
theorem zK{p:Prop}(h:p:=by have:=hs i zy k3;simp(disch:=first|assumption|omega)only[c9]at this;exact this):p:=h
theorem zJ{p:Prop}(h:p:=by show(match l[i]? with|none=>_|some n=>_)=_;rw[hi];simp only[hk,ht,ht2,m7,o9,Nat.reduceEqDiff,vP,vU,tc,eX,hop,f1];rfl):p:=h
theorem zI{p:Prop}(h:p:=by obtain⟨z,h34'⟩:=h34 (O2 h c (.cells [(.int .i64 X.op,0),(.int .i64 X.A,0),(.int .i64 X.B,0),(.int .u64 (Int.ofNat X.N),0),(.int .i64 X.k,0),(.int .i64 X.v,0),(.int .i64 X.i,0),(tv,0),(lv,0)] 0 false)) (λb hb=>c9 zy);obtain⟨h35,h39,h36,h36',h37c,h37,h37',h38,h44,h96⟩:=C;obtain⟨ta,te,rfl,_⟩:=id Ht;obtain⟨la,le,rfl,_⟩:=id Hl;simp only[o8,hA,hB,xF]at hq;have nx:=λ(c:Nat) (h:Trie VObj) (r w:List Nat)=>b1c (c:=c) (h:=h) (r:=r) (w:=w) hq rfl;simp only[o8,hA,hB,xF]at h34';have nl:=K8 X.op;have l1:=C2 a zy;have l2:=C2 b zy;have q1:=h37 a zy;have q2:=h37' b zy;have q3:=h37' a zy;have q4:=h37c a zy;cases hz:b.beq 0 with|true=>simp(maxSteps:=9999999) (disch:=try exact dy)only[gD,T3,U4,T9,o8,hA,hB,h34',h35,h39,h38,h44,h96,h41,nx,hz,I2,Nat.reduceMul,ap9,Nat.reduceAdd];exact d8.done ⟨by simp only[P9,o9,hz,v8,wQ,xJ],λi hi=>by simp(maxSteps:=9999999) (disch:=try exact dy)only[c9]⟩|false=>simp(maxSteps:=9999999) (disch:=try exact dy)only[gD,T3,a1N,U4,T9,o8,hA,hB,h34',h35,h39,h36',h38,h44,h96,q2,h41,nx,hz,I2,Nat.reduceMul,ap9,Nat.reduceAdd];exact d8.done ⟨by simp only[P9,I8,m7,hz,v8,wO,xJ],λi hi=>by simp(maxSteps:=9999999) (disch:=try exact dy)only[c9]⟩):p:=h
theorem zH{p:Prop}(h:p:=by obtain⟨z,h34'⟩:=h34 (O2 h c (.cells [(.int .i64 X.op,0),(.int .i64 X.A,0),(.int .i64 X.B,0),(.int .u64 (Int.ofNat X.N),0),(.int .i64 X.k,0),(.int .i64 X.v,0),(.int .i64 X.i,0),(tv,0),(lv,0)] 0 false)) (λb hb=>c9 zy);obtain⟨h35,h39,h36,h36',h37c,h37,h37',h38,h44,h96⟩:=C;obtain⟨ta,te,rfl,_⟩:=id Ht;obtain⟨la,le,rfl,_⟩:=id Hl;simp only[o8,hA,hB,xF]at h34';have nl:=K8 X.op;have l1:=C2 a zy;have l2:=C2 b zy;have q1:=h37 a zy;have q2:=h37' b zy;have q3:=h37' a zy;have q4:=h37c a zy;cases hz:b.beq 0 with|true=>simp(maxSteps:=9999999) (disch:=try exact dy)only[gD,T3,a1N,U4,T9,o8,hA,hB,h34',h35,h39,h36,h38,h44,h96,q1,hz,I2,Nat.reduceMul,ap9,Nat.reduceAdd];exact d8.done ⟨by simp only[P9,I8,o9,hz,v8,wQ,xJ],λi hi=>by simp(maxSteps:=9999999) (disch:=try exact dy)only[c9]⟩|false=>simp(maxSteps:=9999999) (disch:=try exact dy)only[gD,T3,a1N,U4,T9,o8,hA,hB,h34',h35,h39,h36,h36',h38,h44,h96,q1,q2,hz,I2,Nat.reduceMul,ap9,Nat.reduceAdd];exact d8.done ⟨by simp only[P9,I8,m7,hz,v8,wO,xJ],λi hi=>by simp(maxSteps:=9999999) (disch:=try exact dy)only[c9]⟩):p:=h
theorem zG{p:Prop}(h:p:=by obtain⟨z,h34'⟩:=h34 (O2 h c (.cells [(.int .i64 X.op,0),(.int .i64 X.A,0),(.int .i64 X.B,0),(.int .u64 (Int.ofNat X.N),0),(.int .i64 X.k,0),(.int .i64 X.v,0),(.int .i64 X.i,0),(tv,0),(lv,0)] 0 false)) (λb hb=>c9 zy);obtain⟨h35,h39,h36,h36',h37c,h37,h37',h38,h44,h96⟩:=C;obtain⟨ta,te,rfl,_⟩:=id Ht;obtain⟨la,le,rfl,_⟩:=id Hl;simp only[o8,hA,hB,xF]at h34';have nl:=K8 X.op;have l1:=C2 a zy;have l2:=C2 b zy;have q1:=h37 a zy;have q2:=h37' b zy;have q3:=h37' a zy;have q4:=h37c a zy;simp(maxSteps:=9999999) (disch:=try exact dy)only[gD,T3,U4,T9,o8,hA,hB,h34',h35,h39,h38,h44,h96,h42,I2,Nat.reduceMul,ap9,Nat.reduceAdd];exact d8.done ⟨by simp only[v8,xJ],λi hi=>by simp(maxSteps:=9999999) (disch:=try exact dy)only[c9]⟩):p:=h
theorem zF{p:Prop}(h:p:=by obtain⟨o,A,B,N,k,v,bi,ts,ls⟩:=X;obtain⟨⟨a,hA,hA1,hA2⟩,⟨b,hB,hB1,hB2⟩,hN2,hN3,hb,ht,hl,hr⟩:=H;simp only at ho hA hB hN2 hN3 hb ht hl hr hN;subst ho;subst hA;subst hB;obtain⟨rfl,rfl,rfl⟩:=hb zv;obtain rfl:=ht zv;obtain rfl:=hl zv;obtain rfl:=hN2 rfl;refine⟨⟨op,a,b,0,0,0,0,[],[]⟩,_,.two hi zv hA1 hB1,rfl,?_,rfl⟩;show S.bothS a b=_;unfold S.bothS;cases Nat.beq a 0&&Nat.beq b 0 with|true=>rfl|false=>show S.spNum a++S.spNum b=_;simp[S.spNum,It.b,bcase]):p:=h
theorem zE{p:Prop}(h:p:=by obtain⟨o,A,B,N,k,v,bi,ts,ls⟩:=X;obtain⟨⟨a,hA,hA1,hA2⟩,⟨b,hB,hB1,hB2⟩,hN2,hN3,hb,ht,hl,hr⟩:=H;simp only at ho hA hB hN2 hN3 hb ht hl hr hN;subst ho;subst hA;subst hB;obtain⟨rfl,rfl,rfl⟩:=hb zv;obtain rfl:=ht zv;obtain rfl:=hl zv;obtain rfl:=hN2 rfl;refine⟨⟨op,a,b,0,0,0,0,[],[]⟩,_,.ini hi zv hA1 hB1,rfl,?_,rfl⟩;show m9 (S.lessS b) (S.spNum a)=_;rw[a9h];simp[v8,S.spNum,It.b]):p:=h
theorem zD{p:Prop}(h:p:=by simp(maxSteps:=9999999) (disch:=try exact dy)only[c9]):p:=h
theorem zC{p:Prop}(h:p:=by simp only[c9 (hf i hi)]):p:=h
theorem zB{p:Prop}(h:p:=by unfold sgn;split<;>omega):p:=h
theorem zA{p:Prop}(h:p:=by rw[wx]at hi hj;omega):p:=h
theorem yz{p:Prop}(h:p:=by simpa[tZ]using hd):p:=h
theorem yy{p:Prop}(h:p:=by rcases hor with h0|h0;rw[h0]at hbn;cases hbn;exact h0):p:=h
theorem yx{p:Prop}(h:p:=by rw[a0Z,wA,xH];omega):p:=h
theorem yw{p:Prop}(h:p:=by show(w.heap.push _)[w.heap.size]?=_;simp):p:=h
theorem yv{p:Prop}(h:p:=by rw[q,Q9 hk (by unfold a0s;rw[hA,hB];rfl)]):p:=h
theorem yu{p:Prop}(h:p:=by simp only[wz];omega):p:=h
theorem yr{p:Prop}(h:p:=by have h9:=H.z2;have h8:=hs.2.1;simp only[xH]at h9;omega):p:=h
theorem yq{p:Prop}(h:p:=by rw[I4,V6 (by have:=hfl b0;show bs.length*3+2+1<=_;omega)];rfl):p:=h
theorem yp{p:Prop}(h:p:=by show bcase (M2 n.k n.t) (bcase (decide ((P3 L n.t).2=0)) (bcase (hdI t) _ _) _) _=_;rw[m1,xL m2,eI];rfl):p:=h
theorem yo{p:Prop}(h:p:=by have:=H.z2;have h8:=hs.2.1;obtain⟨Y,hY,hLY⟩:=H.L;dsimp only;rw[hLY,xE];omega):p:=h
theorem yn{p:Prop}(h:p:=by unfold D9;rw[hi];show bcase (M2 n.k n.t) (bcase _ _ _) _=_;rw[q1,xO q2];rfl):p:=h
theorem ym{p:Prop}(h:p:=by unfold D9;rw[hi];show bcase (M2 n.k n.t) (bcase _ _ _) _=_;rw[q1,xL q2];rfl):p:=h
theorem yl{p:Prop}(h:p:=by rw[uI,vv,vA]):p:=h
theorem yk{p:Prop}(h:p:=by apply wE;intro i;cases hi:vs[i]? with|none=>exact ww (by rw[r.len];simp_all)|some y=>obtain⟨y',q1,q2⟩:=r.get? hi;rw[q1,q2.eq_of_plain ((C9 _ _).1 hp _ (we hi))]):p:=h
theorem yj{p:Prop}(h:p:=by intro l;induction l with|nil=>exact I6 _ _|cons y l ih=>show(match Nat.ble 0 0 with|true=>(match j8 0 (G4 (λv=>(v,0)) l) l.length with|some vs=>some (y::vs)|none=>none)|false=>none)=_;rw[a1E,ih]):p:=h
theorem yi{p:Prop}(h:p:=by by_cases q:a<b;rw[xL q];simp only[wa,wz];omega;rw[xO q];simp only[wu,wz];omega):p:=h
theorem yg{p:Prop}(h:p:=by by_cases q:a=b;rw[xL q];simp only[wa,wz];omega;rw[xO q];simp only[wu,wz];omega):p:=h
theorem yf{p:Prop}(h:p:=by refine⟨xR _,λi k=>?_,λi k1 k2=>k2,λi k1 k2=>k2,λi k=>k,λi k=>Or.inl k⟩;obtain⟨k1,k2,k3,k4,k5⟩:=H.vf i k;simp(disch:=first|assumption|omega)only[c9]):p:=h
theorem ye{p:Prop}(h:p:=by by_cases hb:c b;exact hb;cases hm:m b with|none=>rw[V.dom b hb hm]at hc;cases hc|some x=>obtain⟨_,_,cs',ds,e1,_⟩:=V.new b x.1 x.2 hm;rw[e1]at hc;cases hc):p:=h
theorem yd{p:Prop}(h:p:=by rw[q,Q9 hk (by unfold a0s;rw[hA,hB,hal];show m9 (m9 (P9 b) (a1p X.N)) (a7W a al)=_;unfold a1p a7W;rw[hz,hy];simp only[N8,P6,v8,xJ])]):p:=h
theorem yc{p:Prop}(h:p:=by obtain⟨t,ht⟩:=hpre;rw[<-ht,wq,List.find?_append,tF.2 (λx hx=>by simpa using hq x hx)];simp;exact Or.inl hy):p:=h
theorem yb{p:Prop}(h:p:=by simpa[wB]using q):p:=h
theorem ya{p:Prop}(h:p:=by have:=hUc _ hi;omega):p:=h
theorem yZ{p:Prop}(h:p:=by rw[a3l sh n f _ h,a4l];rfl):p:=h
theorem yY{p:Prop}(h:p:=by have:=hi;grind[a1e,y9]):p:=h
theorem yX{p:Prop}(h:p:=by dsimp only at k;omega):p:=h
theorem yW{p:Prop}(h:p:=by grind[Op.operands]):p:=h
theorem yV{p:Prop}(h:p:=by rw[q,Q9 hk (by rfl)]):p:=h
theorem yU{p:Prop}(h:p:=by simp(disch:=first|assumption|omega)only[c9]):p:=h
theorem yT{p:Prop}(h:p:=by rw[e0];unfold a3S;rw[hz,hy];rfl):p:=h
theorem yS{p:Prop}(h:p:=by simp only[v8,xJ]):p:=h
theorem yR{p:Prop}(h:p:=by have:=H.z2;have h8:=hs.2.2;have h9:=H.lb;dsimp only;omega):p:=h
theorem yQ{p:Prop}(h:p:=by unfold D9;rw[hi];show bcase (M2 n.k n.t) _ _=_;rw[q1];rfl):p:=h
theorem yP{p:Prop}(h:p:=by simp only[P9,I8,m7,hz,v8,xJ]):p:=h
theorem yO{p:Prop}(h:p:=by simp only[P9,o9,hz,v8,xJ]):p:=h
theorem yN{p:Prop}(h:p:=by intro bs;induction bs with|nil=>rfl|cons R Rs ih=>rw[wW,xE,ih,xH];show 3+_=_;omega):p:=h
theorem yM{p:Prop}(h:p:=by rw[a2y,IntKind.wrap_i64];unfold sgn;rw[Int.fdiv_eq_ediv_of_nonneg _ zv];simp only[wz];split<;>omega):p:=h
theorem yL{p:Prop}(h:p:=by cases e:D9 fd l q R.i with|er p e=>exact Kp.er _ _ _ _|ok k=>obtain⟨n,hi⟩:=b3m e;exact Kp.step hi rfl rfl rfl rfl):p:=h
theorem yK{p:Prop}(h:p:=by rcases hq with⟨k,e,rfl,hF⟩|⟨p,e',e,rfl,hF⟩;rw[e];exact⟨rfl,hF⟩;rw[e];exact⟨rfl,hF⟩):p:=h
theorem yJ{p:Prop}(h:p:=by cases ht:X.types with|nil=>rfl|cons t l=>cases l with|nil=>rw[ht]at hb;cases hb|cons t' l=>rfl):p:=h
theorem yI{p:Prop}(h:p:=by rcases aw1 i hi with k|⟨_,k,k2⟩|k;cases k;cases k;exact Or.inl k2.symm;exact Or.inr k):p:=h
theorem yH{p:Prop}(h:p:=by rcases uY x.n with h|h;exact h;have:=Nat.mul_pos h e0;simp at hx;omega):p:=h
theorem yG{p:Prop}(h:p:=by by_cases hx:b2=b;exact⟨_,by rw[hx];exact hb⟩;rw[hn b2 hx];exact S.dom2 b2 g2 l2 q):p:=h
theorem yF{p:Prop}(h:p:=by rw[xE,xH,wF,xF];omega):p:=h
theorem yE{p:Prop}(h:p:=by show bcase (decide (b.toNat=45)||decide (b.toNat=43)) _ _=_;rw[h45,h43,u5];rfl):p:=h
theorem yD{p:Prop}(h:p:=by simp only[I8,a4s,m7,vM,hy,hz,v8,wO,xJ]):p:=h
theorem yC{p:Prop}(h:p:=by rw[hh,wT rfl]):p:=h
theorem yB{p:Prop}(h:p:=by rw[J7];exact htk):p:=h
theorem yA{p:Prop}(h:p:=by rw[hh,wX hj]):p:=h
theorem xz{p:Prop}(h:p:=by unfold a3S;rw[hN,hA];rfl):p:=h
theorem xy{p:Prop}(h:p:=by rw[(hf _).e];exact hk v):p:=h
theorem xx{p:Prop}(h:p:=by rw[H.L,xJ]):p:=h
theorem xw{p:Prop}(h:p:=by have:=hl.len.2;omega):p:=h
theorem xu{p:Prop}(h:p:=by simpa using r2.len):p:=h
theorem xr{p:Prop}(h:p:=by simpa using r2.at_):p:=h
theorem xq{p:Prop}(h:p:=by rw[ul zy];simp):p:=h
theorem xp{p:Prop}(h:p:=by have:=kk.2;dsimp only at this;omega):p:=h
theorem xo{p:Prop}(h:p:=by rw[hs5 _ zy λho=>(H4.dp.oo _ ho).1 rfl];simp(disch:=first|assumption|omega)only[c9];exact hp4):p:=h
theorem xm{p:Prop}(h:p:=by have k3:=(H.lo b k2).1;have k4:=(H.lo b k2).2.1;simp(disch:=first|assumption|omega)only[c9]):p:=h
theorem xl{p:Prop}(h:p:=by have ht:t∉m9 (R8 a) (R8 b):=ht;rw[v8,wU,not_or]at ht;exact ht):p:=h
theorem xj{p:Prop}(h:p:=by have:=xC List.length hd;rw[wM]at this;simp at this;omega):p:=h
theorem xh{p:Prop}(h:p:=by show bcase (decide (b.toNat=45)||decide (b.toNat=43)) _ _=_;rw[h45,h43];rfl):p:=h
theorem xg{p:Prop}(h:p:=by rw[vv,wW,uh,xJ]):p:=h
theorem xf{p:Prop}(h:p:=by have:=xC List.length he;rwa[xF,xF]at this):p:=h
theorem xd{p:Prop}(h:p:=by show k (match Nat.beq i id with|true=>.normal|false=>.exit i) fr=_;rw[h]):p:=h
theorem xZ{p:Prop}(h:p:=by grind[Instr.findKey,Sem.run_bind,M8,Result.andThen_ok,Sem.run_pure]):p:=h
theorem xY{p:Prop}(h:p:=by unfold S.I64;rw[wc,xP hlt];rfl):p:=h
theorem xX{p:Prop}(h:p:=by simp only[I8,a4s,m7,a1Q,hy,hz,v8,wO,xJ]):p:=h
theorem xW{p:Prop}(h:p:=by simp only[I8,a4s,m7,a8K,hy,hz,v8,wO,xJ]):p:=h
theorem xV{p:Prop}(h:p:=by obtain⟨o2,s2,hr,_⟩:=o7 (x8 h4).choose_spec.2;exact(a7T hr).1):p:=h
theorem xU{p:Prop}(h:p:=by cases x with|ok k=>exact H9.ok _|er p e=>exact H9.er (h p e rfl)):p:=h
theorem xT{p:Prop}(h:p:=by rw[xE];omega):p:=h
end Go
section
noncomputable section
namespace Go.V
def j9 {α:Type}(l:List α):Nat:=List.rec (motive:=λ_=>Nat) 0 (λ_ _ n=>n+1) l
def O6 {α:Type}(l:List α):Nat->Option α:=List.rec (motive:=λ_=>Nat->Option α) (λ_=>none) (λv _ ih i=>Nat.rec (motive:=λ_=>Option α) (some v) (λi _=>ih i) i) l
def z7 {α:Type}(l:List α):Nat->List α:=List.rec (motive:=λ_=>Nat->List α) (λ_=>[]) (λv l ih i=>Nat.rec (motive:=λ_=>List α) (v::l) (λi _=>ih i) i) l
def Q2 {α:Type}(l:List α):Nat->List α:=List.rec (motive:=λ_=>Nat->List α) (λ_=>[]) (λv _ ih i=>Nat.rec (motive:=λ_=>List α) [] (λi _=>v::ih i) i) l
def m9 {α:Type}(l m:List α):List α:=List.rec (motive:=λ_=>List α) m (λv _ ih=>v::ih) l
def G4 {α β:Type}(f:α->β)(l:List α):List β:=List.rec (motive:=λ_=>List β) [] (λv _ ih=>f v::ih) l
def A9 {α:Type}(f:α->Bool)(l:List α):Bool:=List.rec (motive:=λ_=>Bool) true (λv _ ih=>Bool.rec (motive:=λ_=>Bool) false ih (f v)) l
def beqBytes (l:List UInt8):List UInt8->Bool:=List.rec (motive:=λ_=>List UInt8->Bool) (λm=>match m with|[]=>true|_::_=>false) (λv _ ih m=>match m with|[]=>false|w::m=>Bool.rec (motive:=λ_=>Bool) false (ih m) (Nat.beq v.toNat w.toNat)) l
def a5q (l:List UInt8):List UInt8->Bool:=List.rec (motive:=λ_=>List UInt8->Bool) (λm=>match m with|[]=>false|_::_=>true) (λv _ ih m=>match m with|[]=>false|w::m=>match Nat.blt v.toNat w.toNat with|true=>true|false=>match Nat.beq v.toNat w.toNat with|true=>ih m|false=>false) l
inductive Trie (α:Type) where
 | leaf
 | node (v:Option α) (l r:Trie α)
def Trie.get {α:Type}(t:Trie α):Nat->Option α:=Trie.rec (motive:=λ_=>Nat->Option α) (λ_=>none) (λv _ _ gl gr n=>match n with|0=>v|k+1=>match k%2 with|0=>gl (k/2)|_+1=>gr (k/2)) t
def Trie.putK {α β:Type}(o:Option α)(f:Nat):Trie α->Nat->(Trie α->β)->β:=Nat.rec (motive:=λ_=>Trie α->Nat->(Trie α->β)->β) (λt _ q=>q t) (λ_ ih t n q=>match n with
 |0=>match t with|.leaf=>q (.node o .leaf .leaf)|.node _ l r=>q (.node o l r)
 |k+1=>match t with
  |.leaf=>match k%2 with|0=>ih .leaf (k/2) λt=>q (.node none t .leaf)|_+1=>ih .leaf (k/2) λt=>q (.node none .leaf t)
  |.node v l r=>match k%2 with|0=>ih l (k/2) λt=>q (.node v t r)|_+1=>ih r (k/2) λt=>q (.node v l t)) f
def a6t {α:Type}(n:Nat)(k:Nat->α):α:=match n with|0=>k 0|m+1=>k (m+1)
def c7Z {α:Type}(n:Int)(k:Int->α):α:=match n with|.ofNat m=>a6t m λm=>k (.ofNat m)|.negSucc m=>a6t m λm=>k (.negSucc m)
def fList {β α:Type}(l:List β):(List β->α)->α:=List.rec (motive:=λ_=>(List β->α)->α) (λk=>k []) (λx _ ih k=>ih λl=>k (x::l)) l
def c3C {α:Type}(g:Option Nat)(k:Option Nat->α):α:=match g with|none=>k none|some g=>a6t g λg=>k (some g)
def b7B {α:Type}(a:Option Addr)(k:Option Addr->α):α:=match a with|none=>k none|some a=>a6t a.block λb=>a6t a.off λoff=>c3C a.spot λg=>k (some ⟨b,off,g⟩)
def a5X {α:Type}(v:Value)(k:Value->α):α:=match v with
 |.int kd n=>c7Z n λn=>k (.int kd n)|.bool b=>match b with|true=>k (.bool true)|false=>k (.bool false)
 |.string s=>k (.string s)|.pointer a=>b7B a λa=>k (.pointer a)|.slice a n c=>b7B a λa=>a6t n λn=>a6t c λc=>k (.slice a n c)|.agg cs=>fList cs.toList λl=>k (.agg ⟨l⟩)|.tuple cs=>fList cs.toList λl=>k (.tuple ⟨l⟩)|v=>k v
inductive VObj where
 | cells (cs:List (Value×Nat)) (cur:Nat) (ro:Bool)
 | map (es:List (Value×Value))
 | siter (s:ByteArray) (pos:Nat)
structure S where
 c:Nat
 h:Trie VObj
 r:List Nat
 w:List Nat
def M (α:Type):Type:=S->Option (α×S)
def M.pure {α:Type}(a:α):M α:=λs=>some (a,s)
def M.bind {α β:Type}(m:M α)(f:α->M β):M β:=λs=>match m s with|none=>none|some x=>f x.1 x.2
def M.fail {α:Type}:M α:=λ_=>none
def M.lift {α:Type}(o:Option α):M α:=λs=>match o with|none=>none|some a=>some (a,s)
def M.obind {α β:Type}(o:Option α)(f:α->M β):M β:=match o with|none=>M.fail|some a=>f a
def M.guard {α:Type}(b:Bool)(m:M α):M α:=match b with|true=>m|false=>M.fail
def rd (i:Nat):M VObj:=λs=>match Nat.blt i s.c with
 |true=>match s.h.get i with|some o=>some (o,⟨s.c,s.h,i::s.r,s.w⟩)|none=>none
 |false=>none
def wr (i:Nat)(o:VObj):M Unit:=λs=>match Nat.blt i s.c with
 |true=>match s.h.get i with|some _=>Trie.putK (some o) (i+1) s.h i λh=>some ((),⟨s.c,h,s.r,i::s.w⟩)|none=>none
 |false=>none
def new (o:VObj):M Nat:=λs=>Trie.putK (some o) (s.c+1) s.h s.c λh=>a6t (s.c+1) λc=>some (s.c,⟨c,h,s.r,s.c::s.w⟩)
structure TI where
 und:TypeDesc
 size:Nat
 bytes:Nat
 zero:Value
structure Tab where
 types:Trie TI
 funcs:Trie Func
 ng:Nat
def R6 {α:Type}(p:Program)(s:Sem α):Option α:=Sem.rec (motive:=λ_=>Option α) (λa=>some a) (λ_ _ _ _=>none) (λ_ _ _ _ _=>none) (λ_ _ _=>none) (λ_ _ _=>none) (λ_ _ _ _=>none) (λ_ _ _=>none) (λ_ _ _=>none) (λ_ _ _ _=>none) (λ_ _ _=>none) (λ_ _ _=>none) (λ_ ih=>ih p) (λ_ _ ih=>ih) (λ_=>none) s
def plain:Value->Bool|.bool _=>true|.int ..=>true|.float ..=>true|.complex ..=>true|.string _=>true|.pointer a=>a.isNone|.slice a n c=>a.isNone&&Nat.beq n 0&&Nat.beq c 0|.map r=>r.isNone|.nilFunc=>true|.nilIface=>true|_=>false
def C1 (n:Nat):Value->Bool:=Nat.rec (motive:=λ_=>Value->Bool) (λ_=>false) (λ_ ih v=>match v with|.agg cs=>A9 ih cs.toList|.tuple cs=>A9 ih cs.toList|.iface _ v=>ih v|v=>plain v) n
def r6 (l:List Value):Nat->Value:=List.rec (motive:=λ_=>Nat->Value) (λ_=>undef) (λv _ ih i=>Nat.rec (motive:=λ_=>Value) v (λi _=>ih i) i) l
def a2L (l:List Value):Nat->Value->List Value:=List.rec (motive:=λ_=>Nat->Value->List Value) (λ_ _=>[]) (λv l ih i x=>Nat.rec (motive:=λ_=>List Value) (x::l) (λi _=>v::ih i x) i) l
def K4 (T:Tab)(fr:List Value):Operand->Option Value
 |.tmp t=>some (r6 fr t)|.const v=>match C1 3 v with|true=>some v|false=>none
 |.global g=>match Nat.blt g T.ng with|true=>some (.pointer (some ⟨g,0,some 0⟩))|false=>none
 |.func f=>some (.func (.func f) #[] #[])
def T0 (T:Tab)(fr:List Value)(os:List Operand):Option (List Value):=List.rec (motive:=λ_=>Option (List Value)) (some []) (λo _ ih=>match K4 T fr o with|none=>none|some v=>match ih with|none=>none|some vs=>some (v::vs)) os
def ev (T:Tab)(fr:List Value)(x:Operand)(k:Value->M Value):M Value:=M.obind (K4 T fr x) k
def evs (T:Tab)(fr:List Value)(x:List Operand)(k:List Value->M Value):M Value:=M.obind (T0 T fr x) k
def j8 (g:Nat)(cs:List (Value×Nat)):Nat->Option (List Value):=List.rec (motive:=λ_=>Nat->Option (List Value)) (λn=>match n with|0=>some []|_+1=>none) (λc _ ih n=>match n with
 |0=>some []|n+1=>match Nat.ble c.2 g with
  |true=>match ih n with|some vs=>some (c.1::vs)|none=>none
  |false=>none) cs
def a0W (g:Nat)(vs:List Value):List (Value×Nat)->List (Value×Nat):=List.rec (motive:=λ_=>List (Value×Nat)->List (Value×Nat)) (λcs=>cs) (λv _ ih cs=>match cs with|[]=>(v,g)::ih []|_::cs=>(v,g)::ih cs) vs
def Z7 (g:Nat)(vs:List Value)(cs:List (Value×Nat)):Nat->Option (List (Value×Nat)):=List.rec (motive:=λ_=>Nat->Option (List (Value×Nat))) (λn=>match n with|0=>some (a0W g vs [])|_+1=>none) (λc cs ih n=>match n with|0=>some (a0W g vs (c::cs))|n+1=>match ih n with|some cs'=>some (c::cs')|none=>none) cs
def D5:Value->Bool|.agg _=>false|.tuple _=>false|_=>true
def a5h {α:Type}(o:VObj)(k:List (Value×Nat)->Nat->Bool->M α):M α:=match o with|.cells cs cur ro=>k cs cur ro|_=>M.fail
def loadN (a:Addr)(n:Nat):M (List Value):=M.obind a.spot λg=>M.bind (rd a.block) λo=>a5h o λcs _ _=>M.lift (j8 g (z7 cs a.off) n)
def storeN (a:Addr)(vs:List Value):M Unit:=M.obind a.spot λg=>M.bind (rd a.block) λo=>a5h o λcs cur ro=>M.guard (Nat.beq g cur&& !ro&&A9 D5 vs&&Nat.ble (a.off+j9 vs) (j9 cs))<|M.obind (Z7 g vs cs a.off) λcs'=>fList cs' λcs'=>wr a.block (.cells cs' cur ro)
def M5 (vs:List Value):M Addr:=M.guard (A9 D5 vs)<|fList (G4 (λv=>(v,0)) vs) λcs=>M.bind (new (.cells cs 0 false)) λb=>M.pure ⟨b,0,some 0⟩
def fwd (a:Addr)(n:Nat):Addr:=⟨a.block,a.off+n,a.spot⟩
def a5x:Value->Option Nat
 |.int _ n=>match n with|.ofNat m=>some m|.negSucc _=>none
 |_=>none
def a0X (d:Nat):Option Value->Option Nat|none=>some d|some v=>a5x v
def R5 {α:Type}(v:Value)(k:Addr->M α):M α:=match v with|.pointer a=>M.obind a k|_=>M.fail
def a8i:TypeDesc->Bool|.struct _=>true|.array _ _=>true|_=>false
def a1s:IntKind->Nat|.i8=>128|.i16=>32768|.i32=>2147483648|.i64=>9223372036854775808|.u8=>256|.u16=>65536|.u32=>4294967296|.u64=>18446744073709551616
def G8 (k:IntKind)(n:Int):Int:=match n with
 |.ofNat m=>match Nat.blt m (a1s k)with|true=>.ofNat m|false=>k.wrap (.ofNat m)
 |.negSucc m=>match k.signed&&Nat.blt m (a1s k)with|true=>.negSucc m|false=>k.wrap (.negSucc m)
section
variable (p:Program)(T:Tab)
def ti {α:Type}(t:TypeId)(k:TI->M α):M α:=M.obind (T.types.get t) k
def a2F (t:TypeId)(a:Addr):M Value:=ti T t λi=>match a8i i.und with|true=>M.guard (!(Nat.beq i.size 0))<|M.bind (loadN a i.size) λvs=>M.pure (.agg ⟨vs⟩)|false=>M.bind (loadN a 1) λvs=>M.pure (r6 vs 0)
def b3O (t:TypeId)(a:Addr)(v:Value):M Unit:=ti T t λi=>M.guard (!(Nat.beq i.size 0)&&Nat.beq (j9 v.cells.toList) i.size)<|storeN a v.cells.toList
def a2J:Nat:=4294967296
def elemAt (a:Addr)(i len elem:Nat):M Value:=ti T elem λe=>M.guard (Nat.blt i len&& !(Nat.beq e.size 0))<|M.pure (.pointer (some (fwd a (i*e.size))))
def a7v (t:TypeId)(x ix:Value):M Value:=ti T t λd=>M.obind (a5x ix) λi=>match d.und with
 |.array len elem=>R5 x λa=>elemAt T a i len elem|.slice elem=>match x with|.slice a len es=>M.obind a λa=>ti T elem λe=>M.guard (Nat.beq es e.size)<|elemAt T a i len elem|_=>M.fail
 |_=>M.fail
def b0e (t:TypeId)(x:Value)(f:Nat):M Value:=ti T t λd=>match d.und with|.struct fields=>R5 x λa=>M.obind (O6 fields.toList f) λfd=>ti T fd.type λn=>M.guard (!(Nat.beq n.size 0))<|M.pure (.pointer (some (fwd a fd.offset)))|_=>M.fail
def cut (a:Addr)(len elem:Nat)(lo hi:Option Value):M Value:=ti T elem λe=>M.obind (a0X 0 lo) λl=>M.obind (a0X len hi) λh=>M.guard (Nat.ble l h&&Nat.ble h len&& !(Nat.beq e.size 0))<|M.pure (.slice (some (fwd a (l*e.size))) (h-l) e.size)
def a5Y (s:ByteArray)(lo hi:Option Value):M Value:=M.obind (a0X 0 lo) λl=>M.obind (a0X (j9 s.data.toList) hi) λh=>M.guard (Nat.ble l h&&Nat.ble h (j9 s.data.toList))<|fList (Q2 (z7 s.data.toList l) (h-l)) λb=>M.pure (.string ⟨⟨b⟩⟩)
def cutNil (lo hi:Option Value):M Value:=M.obind (a0X 0 lo) λl=>M.obind (a0X 0 hi) λh=>M.guard (Nat.beq l 0&&Nat.beq h 0)<|M.pure (.slice none 0 0)
def b0R (t:TypeId)(x:Value)(lo hi mx:Option Value):M Value:=ti T t λd=>M.guard mx.isNone<|match d.und with
 |.string=>match x with|.string s=>a5Y s lo hi|_=>M.fail
 |.slice elem=>match x with
  |.slice a len es=>ti T elem λe=>match a with|some a=>M.guard (Nat.beq es e.size)<|cut T a len elem lo hi|none=>M.guard (Nat.beq len 0)<|cutNil lo hi
  |_=>M.fail
 |.array len elem=>R5 x λa=>ti T elem λe=>M.bind (loadN a (len*e.size)) λ_=>cut T a len elem lo hi|_=>M.fail
def a3D (zs:List Value)(n:Nat):List Value:=Nat.rec (motive:=λ_=>List Value) [] (λ_ ih=>m9 zs ih) n
def a9E (t:TypeId)(len cap:Value):M Value:=ti T t λd=>match d.und with|.slice elem=>ti T elem λe=>M.obind (a5x len) λl=>M.obind (a5x cap) λc=>M.guard (Nat.ble l c&&Nat.blt c a2J&&Nat.blt e.bytes 4096&&Nat.beq (j9 e.zero.cells.toList) e.size&& !(Nat.beq e.size 0)&&C1 8 e.zero)<|M.bind (M5 (a3D e.zero.cells.toList l)) λa=>M.pure (.slice (some a) l e.size)|_=>M.fail
def pureV (o:Option Value):M Value:=M.obind o λv=>M.guard (C1 3 v)<|M.pure v
def a4T (b:UInt8):Value:=.int .u8 b.toNat
def b5u:Value->Option UInt8|.int .u8 n=>some (UInt8.ofNat n.toNat)|_=>none
def b1Q (vs:List Value):Option (List UInt8):=List.rec (motive:=λ_=>Option (List UInt8)) (some []) (λv _ ih=>match b5u v with|none=>none|some b=>match ih with|some bs=>some (b::bs)|none=>none) vs
def a6U (size:Nat)(x:Value):M (List Value):=match x with
 |.slice a len es=>match a with|none=>M.guard (Nat.beq len 0)<|M.pure []|some a=>match len with|0=>M.pure []|len+1=>M.guard (Nat.beq es size)<|loadN a ((len+1)*size)
 |.string s=>M.guard (Nat.beq size 1)<|M.pure (G4 a4T s.data.toList)|_=>M.fail
def b2Q:Value->Bool|.slice ..=>true|_=>false
def b1t:TypeDesc->Bool|.int _=>true|_=>false
def appendAt (e:TI)(a:Addr)(len:Nat)(vs:List Value)(m:Nat):M Value:=M.obind a.spot λg=>M.bind (rd a.block) λo=>a5h o λcs cur ro=>M.guard (!ro)<|M.guard (Nat.ble (a.off+len*e.size) (j9 cs))<|M.obind (j8 g (z7 cs a.off) (len*e.size)) λ_=>fList (m9 (Q2 cs (a.off+len*e.size)) (G4 (λv=>(v,cur+1)) vs)) λcs'=>M.bind (wr a.block (.cells cs' (cur+1) ro)) λ_=>M.pure (.slice (some ⟨a.block,a.off,some (cur+1)⟩) (len+m) e.size)
def X7 (e:TI)(s:Value)(vs:List Value):M Value:=match vs with
 |[]=>M.guard (b2Q s)<|M.pure s|v::vs=>match s with
  |.slice base len es=>a6t ((j9 vs+1)/e.size) λm=>M.guard (Nat.beq (m*e.size) (j9 vs+1)&&A9 D5 (v::vs)&&Nat.blt ((len+m)*4) a2J&&Nat.blt e.bytes 4096)<|match base with|none=>M.guard (Nat.beq len 0)<|M.bind (M5 (v::vs)) λa=>M.pure (.slice (some a) m e.size)|some a=>M.guard (Nat.beq es e.size)<|appendAt e a len (v::vs) m
  |_=>M.fail
def appendV (argTypes:Array TypeId)(args:List Value):M Value:=M.obind (O6 argTypes.toList 0) λst=>M.obind (O6 argTypes.toList 1) λxt=>ti T st λd=>ti T xt λdx=>match d.und with|.slice elem=>M.obind (O6 args 0) λs=>M.obind (O6 args 1) λx=>ti T elem λe=>M.guard (!b1t dx.und&& !(Nat.beq e.size 0))<|M.bind (a6U e.size x) λvs=>fList vs λvs=>X7 e s vs|_=>M.fail
def V4:Value->Value->Option Bool
 |.int a x,.int b y=>match decide (a=b)with|true=>some (decide (x=y))|false=>none
 |.string x,.string y=>some (beqBytes x.data.toList y.data.toList)|.bool x,.bool y=>some (x==y)|_,_=>none
def U6 (k:Value)(es:List (Value×Value)):Option (Option Value):=List.rec (motive:=λ_=>Option (Option Value)) (some none) (λe _ ih=>match V4 k e.1 with|none=>none|some true=>some (some e.2)|some false=>ih) es
def a3e (k v:Value)(es:List (Value×Value)):List (Value×Value):=List.rec (motive:=λ_=>List (Value×Value)) [(k,v)] (λe es ih=>match V4 k e.1 with|some true=>(k,v)::es|_=>e::ih) es
def a6g:TypeDesc->Value->Bool|.int k,.int k' _=>decide (k=k')|.string,.string _=>true|.bool,.bool _=>true|_,_=>false
def c4U {α:Type}(o:VObj)(k:List (Value×Value)->M α):M α:=match o with|.map es=>k es|_=>M.fail
def a4M (r:Nat):M (List (Value×Value)):=M.bind (rd r) λo=>c4U o M.pure
def a8U (x:Value):M (List (Value×Value)):=match x with
 |.map r=>match r with|none=>M.pure []|some r=>a4M r
 |_=>M.fail
def a8R (commaOk:Bool)(v:Value)(b:Bool):Value:=match commaOk with|true=>.tuple #[v,.bool b]|false=>v
def a8Q (t:TypeId)(x ix:Value)(commaOk:Bool):M Value:=ti T t λd=>match d.und with
 |.map key elem=>ti T key λkd=>ti T elem λed=>M.guard (a6g kd.und ix)<|M.bind (a8U x) λes=>M.obind (U6 ix es) λo=>match o with|some v=>M.pure (a8R commaOk v true)|none=>M.guard (C1 8 ed.zero)<|M.pure (a8R commaOk ed.zero false)
 |_=>M.fail
def a5z (t:TypeId)(m k v:Value):M Unit:=ti T t λd=>match d.und with
 |.map key _=>match m with|.map r=>M.obind r λr=>ti T key λkd=>M.guard (a6g kd.und k)<|M.bind (a4M r) λes=>M.obind (U6 k es) λ_=>fList (a3e k v es) λes'=>wr r (.map es')|_=>M.fail
 |_=>M.fail
def c8k (d:TypeDesc)(x:Value):M Value:=match d with
 |.array n _=>M.pure (goInt n)|.string=>match x with|.string s=>M.pure (goInt (j9 s.data.toList))|_=>M.fail
 |.slice _=>match x with|.slice _ n _=>M.pure (goInt n)|_=>M.fail
 |.map _ _=>M.bind (a8U x) λes=>M.pure (goInt (j9 es))|_=>M.fail
def c1Y:TypeDesc->Bool|.int .u8=>true|_=>false
def c1G (e:TypeId)(b:ByteArray):M Value:=ti T e λi=>M.guard (c1Y i.und&&Nat.blt (j9 b.data.toList) a2J)<|M.bind (M5 (G4 a4T b.data.toList)) λa=>M.pure (.slice (some a) (j9 b.data.toList) 1)
def convBytes (e:TypeId)(x:Value):M Value:=ti T e λi=>M.guard (c1Y i.und)<|M.bind (a6U 1 x) λvs=>M.obind (b1Q vs) λbs=>M.pure (.string ⟨⟨bs⟩⟩)
def a9y (src dst:TypeId)(x:Value):M Value:=ti T src λs=>ti T dst λd=>match d.und with
 |.int k=>match x with|.int _ n=>M.pure (.int k (G8 k n))|_=>M.fail
 |.slice e=>match x with|.string b=>c1G T e b|_=>M.fail
 |.string=>match x with|.string b=>M.pure (.string b)|.int _ n=>M.pure (.string (Utf8.encode n))|_=>match s.und with|.slice e=>M.guard (b2Q x)<|convBytes T e x|_=>M.fail
 |_=>M.fail
def a8a (fr:List Value)(c a b:Operand):M Value:=ev T fr c λvc=>ev T fr a λva=>ev T fr b λvb=>match vc with
 |.bool t=>match t with|true=>M.pure va|false=>M.pure vb
 |_=>M.fail
def a0l {α:Type}:List α->Bool|[]=>true|_::_=>false
def b1B (t:TypeId):M Value:=ti T t λi=>M.guard (C1 8 i.zero&& !(a0l i.zero.cells.toList))<|M.bind (M5 i.zero.cells.toList) λa=>M.pure (.pointer (some a))
def a9x (fr:List Value)(x:Operand):M Value:=ev T fr x λv=>M.guard (!(a0l v.cells.toList))<|M.bind (M5 v.cells.toList) λa=>M.pure (.pointer (some a))
def a3X (vs:List Value):List Value->List Value:=List.rec (motive:=λ_=>List Value->List Value) (λcs=>cs) (λv _ ih cs=>match cs with|[]=>[]|_::cs=>v::ih cs) vs
def a1a (vs cs:List Value):Nat->List Value:=List.rec (motive:=λ_=>Nat->List Value) (λ_=>[]) (λc cs ih n=>match n with|0=>a3X vs (c::cs)|n+1=>c::ih n) cs
def a5D (place:Nat->Option (Nat×Nat))(qs:List (Nat×Operand)):List Value->List Value->Option (List Value):=List.rec (motive:=λ_=>List Value->List Value->Option (List Value)) (λ_ cs=>some cs) (λq _ ih vs cs=>match vs with|[]=>none|v::vs=>match place q.1 with|none=>none|some os=>match Nat.beq (j9 v.cells.toList) os.2&&Nat.ble (os.1+os.2) (j9 cs)with|true=>ih vs (a1a v.cells.toList cs os.1)|false=>none) qs
def a3y (fields:List Field)(j:Nat):Option (Nat×Nat):=match O6 fields j with|none=>none|some f=>match T.types.get f.type with|none=>none|some i=>some (f.offset,i.size)
def Z1 (size j:Nat):Option (Nat×Nat):=some (j*size,size)
def b6W (f:Field):Bool:=(T.types.get f.type).isSome
def a6n (fr:List Value)(t:TypeId)(ps:Array (Nat×Operand)):M Value:=evs T fr (G4 (·.2) ps.toList) λvs=>ti T t λi=>M.guard (C1 8 i.zero)<|match i.und with|.struct fields=>M.guard (A9 (b6W T) fields.toList)<|M.obind (a5D (a3y T fields.toList) ps.toList vs i.zero.cells.toList) λcs=>M.pure (.agg ⟨cs⟩)|.array _ elem=>ti T elem λe=>M.obind (a5D (Z1 e.size) ps.toList vs i.zero.cells.toList) λcs=>M.pure (.agg ⟨cs⟩)|_=>M.fail
def a1O (fr:List Value)(t:TypeId)(len:Nat)(ps:Array (Nat×Operand)):M Value:=evs T fr (G4 (·.2) ps.toList) λvs=>ti T t λd=>match d.und with|.slice elem=>ti T elem λe=>M.guard (Nat.beq (j9 e.zero.cells.toList) e.size&& !(Nat.beq e.size 0)&&C1 8 e.zero&&Nat.ble (len*e.size) 16777216)<|M.obind (a5D (Z1 e.size) ps.toList vs (a3D e.zero.cells.toList len)) λcs=>M.bind (M5 cs) λa=>M.pure (.slice (some a) len e.size)|_=>M.fail
def a5A (fr:List Value)(t:TypeId)(x:Operand):M Value:=ev T fr x λv=>R5 v λa=>a2F T t a
def a6e (fr:List Value)(t:TypeId)(x y:Operand):M Value:=ev T fr x λva=>ev T fr y λv=>R5 va λa=>M.bind (b3O T t a v) λ_=>M.pure undef
def b8A:Fn->Bool|.func _=>true|_=>false
def a2X (fr:List Value)(x:Operand):M Value:=ev T fr x λv=>match v with|.pointer a=>M.guard a.isSome<|M.pure (.pointer a)|.func fn a b=>M.guard (b8A fn)<|M.pure (.func fn a b)|_=>M.fail
def b1S (op:BinOp)(k:IntKind)(a b:Int):Option Value:=match op with|.add=>some (.int k (G8 k (a+b)))|.sub=>some (.int k (G8 k (a-b)))|.mul=>some (.int k (G8 k (a*b)))|.eql=>some (.bool (decide (a=b)))|.neq=>some (.bool (!(decide (a=b))))|.lss=>some (.bool (decide (a<b)))|.leq=>some (.bool (decide (a<=b)))|.gtr=>some (.bool (decide (b<a)))|.geq=>some (.bool (decide (b<=a)))|_=>none
def Q7:IntKind->IntKind->Bool|.i8,.i8=>true|.i16,.i16=>true|.i32,.i32=>true|.i64,.i64=>true|.u8,.u8=>true|.u16,.u16=>true|.u32,.u32=>true|.u64,.u64=>true|_,_=>false
def a8z (k:IntKind)(m:Nat):Nat:=match Nat.ble m k.bits with|true=>m|false=>k.bits
def b7C (op:BinOp)(k:IntKind)(n m:Nat):Option Value:=match op with
 |.quo=>match m with|0=>none|m+1=>some (.int k (G8 k (.ofNat (Nat.div n (Nat.succ m)))))
 |.rem=>match m with|0=>none|m+1=>some (.int k (.ofNat (Nat.mod n (Nat.succ m))))
 |.and=>some (.int k (G8 k (.ofNat (Nat.land (Nat.mod n (Nat.pow 2 k.bits)) (Nat.mod m (Nat.pow 2 k.bits))))))|.or=>some (.int k (G8 k (.ofNat (Nat.lor (Nat.mod n (Nat.pow 2 k.bits)) (Nat.mod m (Nat.pow 2 k.bits))))))|.xor=>some (.int k (G8 k (.ofNat (Nat.xor (Nat.mod n (Nat.pow 2 k.bits)) (Nat.mod m (Nat.pow 2 k.bits))))))|_=>none
def a2Z (op:BinOp)(k:IntKind)(n m:Nat):Option Value:=match op with|.shl=>some (.int k (G8 k (.ofNat (Nat.mul n (Nat.pow 2 (a8z k m))))))|.shr=>some (.int k (.ofNat (Nat.div n (Nat.pow 2 (a8z k m)))))|_=>none
def a3W (f:Nat->Nat->Option Value)(a b:Int):Option Value:=match a with
 |.ofNat n=>match b with|.ofNat m=>f n m|.negSucc _=>none
 |.negSucc _=>none
def a1n (op:BinOp)(k k':IntKind)(a b:Int):Option Value:=match a3W (a2Z op k) a b with
 |some v=>some v|none=>match Q7 k k' with
  |true=>match b1S op k a b with|some v=>some v|none=>a3W (b7C op k) a b
  |false=>none
def b1K (op:BinOp)(x y:List UInt8):Option Value:=match op with
 |.add=>match Nat.blt (j9 x+j9 y) a2J with|true=>fList (m9 x y) λl=>some (.string ⟨⟨l⟩⟩)|false=>none
 |.eql=>some (.bool (beqBytes x y))|.neq=>some (.bool (!(beqBytes x y)))|.lss=>some (.bool (a5q x y))|.leq=>some (.bool (a5q x y||beqBytes x y))|.gtr=>some (.bool (!(a5q x y||beqBytes x y)))|.geq=>some (.bool (!(a5q x y)))|_=>none
def c9C:BinOp->Bool|.eql=>true|.neq=>true|_=>false
def a1W (d:TypeDesc)(a:Value):Option Bool:=match d with
 |.pointer _=>match a with|.pointer o=>some o.isNone|_=>none
 |.slice _=>match a with|.slice o _ _=>some o.isNone|_=>none
 |.map _ _=>match a with|.map o=>some o.isNone|_=>none
 |.func _ _ _=>match a with|.nilFunc=>some true|.func _ _ _=>some false|_=>none
 |.interface _=>match a with|.nilIface=>some true|.iface _ _=>some false|_=>none
 |_=>none
def isConstO:Operand->Bool|.const _=>true|_=>false
def a9n (T:Tab)(op:BinOp)(t:TypeId)(x y:Operand)(a b:Value):Option Bool:=match c9C op&&(isConstO x||isConstO y)with
 |true=>match T.types.get t with
  |some d=>match a1W d.und a with
   |some p=>match a1W d.und b with
    |some q=>match p||q with|true=>some (p&&q)|false=>none
    |none=>none
   |none=>none
  |none=>none
 |false=>none
def b2B (op:BinOp)(r:Bool):Bool:=match op with|.neq=>!r|_=>r
def a7n (op:BinOp)(t:TypeId)(x y:Operand)(a b:Value):M Value:=match a9n T op t x y a b with|some r=>M.pure (.bool (b2B op r))|none=>M.guard (C1 8 a&&C1 8 b)<|pureV (R6 p (do eqGuard op t x y a b;binOp op t a b))
def b0i (fr:List Value)(op:BinOp)(t:TypeId)(x y:Operand):M Value:=ev T fr x λa=>ev T fr y λb=>match a with
 |.int k n=>match b with
  |.int k' m=>match a1n op k k' n m with|some v=>M.pure v|none=>a7n p T op t x y a b
  |_=>M.fail
 |.string s=>match b with|.string s'=>M.lift (b1K op s.data.toList s'.data.toList)|_=>M.fail
 |_=>a7n p T op t x y a b
def b2W (fr:List Value)(op:UnOp)(x:Operand):M Value:=ev T fr x λa=>M.guard (plain a)<|pureV (R6 p (Op.unary op a))
def a2g (fr:List Value)(s d:TypeId)(x:Operand):M Value:=ev T fr x λa=>a9y T s d a
def b8k:TypeDesc->Bool|.interface _=>true|_=>false
def a6d (fr:List Value)(t:TypeId)(x:Operand):M Value:=ev T fr x λa=>ti T t λi=>M.guard (!(b8k i.und))<|M.pure (.iface t a)
def a7V (fr:List Value)(fn:Fn)(a b:Array Operand):M Value:=evs T fr a.toList λva=>evs T fr b.toList λvb=>M.pure (.func fn ⟨va⟩ ⟨vb⟩)
def b7W:TypeDesc->Bool|.map _ _=>true|_=>false
def b4a:Value->Bool|.int ..=>true|_=>false
def a9X (fr:List Value)(t:TypeId)(r:Option Operand):M Value:=match r with|none=>M.bind (new (.map [])) λb=>M.pure (.map (some b))|some x=>ev T fr x λv=>ti T t λd=>M.guard (b7W d.und&&b4a v)<|M.bind (new (.map [])) λb=>M.pure (.map (some b))
def a8c (fr:List Value)(t:TypeId)(l c:Operand):M Value:=ev T fr l λvl=>ev T fr c λvc=>a9E T t vl vc
def a6c (fr:List Value)(t:TypeId)(x:Operand)(lo hi mx:Option Operand):M Value:=evs T fr lo.toList λvlo=>evs T fr hi.toList λvhi=>evs T fr mx.toList λvmx=>ev T fr x λa=>b0R T t a (O6 vlo 0) (O6 vhi 0) (O6 vmx 0)
def a2p (fr:List Value)(t:TypeId)(x:Operand)(f:Nat):M Value:=ev T fr x λa=>b0e T t a f
def partV (t:TypeId)(cs:List Value)(off:Nat):M Value:=ti T t λi=>match a8i i.und with|true=>M.pure (.agg ⟨Q2 (z7 cs off) i.size⟩)|false=>M.obind (O6 cs off) M.pure
def a4x (fr:List Value)(t:TypeId)(x:Operand)(f:Nat):M Value:=ev T fr x λa=>ti T t λi=>match i.und with
 |.struct fields=>match a with|.agg cs=>M.obind (O6 fields.toList f) λfd=>partV T fd.type cs.toList fd.offset|_=>M.fail
 |_=>M.fail
def a0N (fr:List Value)(t:TypeId)(x i:Operand):M Value:=ev T fr x λa=>ev T fr i λb=>a7v T t a b
def a6j (fr:List Value)(t:TypeId)(x i:Operand):M Value:=ev T fr x λa=>ev T fr i λb=>M.obind (a5x b) λj=>ti T t λd=>match d.und with
 |.string=>match a with|.string s=>M.obind (O6 s.data.toList j) λb=>M.pure (a4T b)|_=>M.fail
 |.array len elem=>match a with|.agg cs=>ti T elem λe=>M.guard (Nat.blt j len)<|partV T elem cs.toList (j*e.size)|_=>M.fail
 |_=>M.fail
def a5c (fr:List Value)(t:TypeId)(x i:Operand)(ok:Bool):M Value:=ev T fr x λa=>ev T fr i λb=>a8Q T t a b ok
def a1R (fr:List Value)(t:TypeId)(m k x:Operand):M Value:=ev T fr m λa=>ev T fr k λb=>ev T fr x λv=>M.bind (a5z T t a b v) λ_=>M.pure undef
def a6h (fr:List Value)(t:TypeId)(x:Operand):M Value:=ev T fr x λv=>ti T t λd=>match d.und with
 |.string=>match v with|.string s=>M.bind (new (.siter s 0)) λb=>M.pure (.pointer (some ⟨b,0,some 0⟩))|_=>M.fail
 |_=>M.fail
def b0T (b:Nat)(s:ByteArray)(pos:Nat):M Value:=match Nat.blt pos (j9 s.data.toList)with|true=>a6t (pos+(Utf8.decode s pos).2) λpos'=>M.bind (wr b (.siter s pos')) λ_=>M.pure (.tuple #[.bool true,goInt pos,.int .i32 (Utf8.decode s pos).1])|false=>M.pure (.tuple #[.bool false])
def c5K:Option Nat->Bool|some g=>Nat.beq g 0|none=>false
def a7L (fr:List Value)(x:Operand)(str:Bool):M Value:=M.guard str<|ev T fr x λv=>R5 v λa=>M.guard (Nat.beq a.off 0&&c5K a.spot)<|M.bind (rd a.block) λo=>match o with|.siter s pos=>b0T a.block s pos|_=>M.fail
def a3P (fr:List Value)(x:Operand)(i:Nat):M Value:=ev T fr x λa=>match a with|.tuple vs=>M.obind (O6 vs.toList i) M.pure|_=>M.fail
def S5 (fr:List Value)(b:Builtin)(args:Array Operand)(argTypes:Array TypeId):M Value:=evs T fr args.toList λvs=>match b with|.append=>M.guard (Nat.beq (j9 vs) 2)<|appendV T argTypes vs|.len=>M.obind (O6 argTypes.toList 0) λt=>ti T t λd=>M.obind (O6 vs 0) λx=>c8k d.und x|.max=>M.guard (A9 plain vs)<|pureV (R6 p (Builtin.max_ argTypes 0 ⟨vs⟩))|.min=>M.guard (A9 plain vs)<|pureV (R6 p (Builtin.min_ argTypes 0 ⟨vs⟩))|_=>M.fail
def E4 (fr:List Value)(o:Op):M Value:=match o with|.move x=>M.lift (K4 T fr x)|.assign x=>M.lift (K4 T fr x)|.pick c a b=>a8a T fr c a b|.alloc t=>b1B T t|.box _ x=>a9x T fr x|.build t ps=>a6n T fr t ps|.buildSlice t len ps=>a1O T fr t len ps|.load t x=>a5A T fr t x|.store t x y=>a6e T fr t x y|.nilCheck x=>a2X T fr x|.binOp op t x y _=>b0i p T fr op t x y|.unOp op _ x=>b2W p T fr op x|.convert s d x=>a2g T fr s d x|.makeInterface t x=>a6d T fr t x|.makeFunc fn a b=>a7V T fr fn a b|.makeMap t r=>a9X T fr t r|.makeSlice t l c=>a8c T fr t l c|.slice t x lo hi mx=>a6c T fr t x lo hi mx|.fieldAddr t x f=>a2p T fr t x f|.field t x f=>a4x T fr t x f|.indexAddr t x i=>a0N T fr t x i|.index t x i=>a6j T fr t x i|.lookup t x i ok=>a5c T fr t x i ok|.mapUpdate t m k x=>a1R T fr t m k x|.insert t m k x=>a1R T fr t m k x|.range t x=>a6h T fr t x|.next x str=>a7L T fr x str|.extract x i=>a3P T fr x i|_=>M.fail
def a2Y (fr:List Value)(f:Operand)(args:List Operand)(k:Nat->List Value->M Value):M Value:=ev T fr f λv=>evs T fr args λvs=>match v with
 |.func fn first captured=>match fn with|.func g=>k g (m9 first.toList (m9 vs captured.toList))|_=>M.fail
 |_=>M.fail
def a9b (call:Nat->List Value->M Value)(fr:List Value)(c:Call):M Value:=match c.callee with|.value f=>a2Y T fr f c.args.toList call|.builtin b=>S5 p T fr b c.args c.argTypes|_=>M.fail
def a9r:Op->Option Call|.call c=>some c|_=>none
def M7 (call:Nat->List Value->M Value)(fr:List Value)(o:Op):M Value:=match a9r o with|some c=>a9b p T call fr c|none=>E4 p T fr o
inductive Ex where
 | normal
 | exit (id:Nat)
 | ret
def Y6 (b:Bool):Value->Bool|.bool b'=>b'==b|_=>false
def a2n (ops:List Oper)(j:Nat):Option Tmp:=match O6 ops j with|none=>none|some o=>o.dst
def Y2 (ops:List Oper)(fr:List Value)(o:Oper):Bool:=match o.guard with|none=>true|some jb=>match a2n ops jb.1 with|some t=>Y6 jb.2 (r6 fr t)|none=>false
def G2 (fr:List Value)(o:Oper)(v:Value):List Value:=match o.dst with|some t=>a2L fr t v|none=>fr
def a1P (fr:List Value)(rs:List ResultVar):M (List Value):=List.rec (motive:=λ_=>M (List Value)) (M.pure []) (λr _ ih=>match r with|.tmp t=>M.bind ih λvs=>M.pure (r6 fr t::vs)|.cell a t=>R5 (r6 fr a) λad=>M.bind (a2F T t ad) λv=>M.bind ih λvs=>M.pure (v::vs)) rs
def a5K:List Value->Value|[]=>.tuple ⟨[]⟩|v::vs=>match vs with|[]=>v|w::ws=>.tuple ⟨v::w::ws⟩
def a3R (call:Nat->List Value->M Value)(ops os:List Oper):List Value->M (List Value):=List.rec (motive:=λ_=>List Value->M (List Value)) M.pure (λo _ ih fr=>match Y2 ops fr o with|true=>M.bind (M7 p T call fr o.op) λv=>a5X v λv=>ih (G2 fr o v)|false=>ih (G2 fr o undef)) os
def M.foot {α:Type}(m:M α):M (α×(List Nat×List Nat)):=λs=>match m ⟨s.c,s.h,[],[]⟩with|none=>none|some x=>some ((x.1,(x.2.r,x.2.w)),⟨x.2.c,x.2.h,m9 x.2.r s.r,m9 x.2.w s.w⟩)
def a0o (call:Nat->List Value->M Value)(ops os:List Oper):List Value->M (List Value×List (List Nat×List Nat)):=List.rec (motive:=λ_=>List Value->M (List Value×List (List Nat×List Nat))) (λfr=>M.pure (fr,[])) (λo _ ih fr=>match Y2 ops fr o with|true=>M.bind (M.foot (M7 p T call fr o.op)) λx=>a5X x.1 λv=>M.bind (ih (G2 fr o v)) λy=>M.pure (y.1,x.2::y.2)|false=>M.bind (ih (G2 fr o undef)) λy=>M.pure (y.1,([],[])::y.2)) os
def a0D (i:Nat)(l:List Nat):Bool:=List.rec (motive:=λ_=>Bool) false (λx _ ih=>match Nat.beq i x with|true=>true|false=>ih) l
def L9 (l m:List Nat):Bool:=A9 (λi=>!(a0D i m)) l
def a9q (os:List Operand):List Nat:=List.rec (motive:=λ_=>List Nat) [] (λo _ ih=>match o with|.tmp t=>t::ih|_=>ih) os
def a1r (ops:List Oper)(o:Oper):List Nat:=match o.guard with|none=>a9q o.op.operands.toList|some jb=>match a2n ops jb.1 with|some t=>t::a9q o.op.operands.toList|none=>a9q o.op.operands.toList
def a0G (o:Oper):List Nat:=match o.dst with|some t=>[t]|none=>[]
def free2 (ops:List Oper)(x y:Oper×(List Nat×List Nat)):Bool:=L9 x.2.2 y.2.1&&L9 x.2.2 y.2.2&&L9 y.2.2 x.2.1&&L9 (a0G x.1) (a1r ops y.1)&&L9 (a0G x.1) (a0G y.1)&&L9 (a0G y.1) (a1r ops x.1)
def a3K (ps:List (List Nat))(e:Edge):List Nat:=match Region.binds .any e with
 |true=>match O6 ps e.on with|some l=>e.on::l|none=>[]
 |false=>[]
def a2H (f:Edge->List Nat)(l:List Edge):List Nat:=List.rec (motive:=λ_=>List Nat) [] (λe _ ih=>m9 (f e) ih) l
def a5u (ops:List Oper)(pj:List Nat)(y:Oper×(List Nat×List Nat))(xs:List (Oper×(List Nat×List Nat))):Nat->Bool:=List.rec (motive:=λ_=>Nat->Bool) (λ_=>true) (λx _ ih i=>match a0D i pj||free2 ops x y with|true=>ih (i+1)|false=>false) xs
def a5i (n:Nat)(l:List Edge):Bool:=A9 (λe=>match Region.binds .any e with|true=>Nat.blt e.on n|false=>true) l
def a0U (ops:List Oper)(ys:List (Oper×(List Nat×List Nat))):List (Oper×(List Nat×List Nat))->List (List Nat)->Nat->Bool:=List.rec (motive:=λ_=>List (Oper×(List Nat×List Nat))->List (List Nat)->Nat->Bool) (λ_ _ _=>true) (λy _ ih xs ps n=>match a5i n y.1.after.toList&&a5u ops (a2H (a3K ps) y.1.after.toList) y xs 0 with|true=>ih (m9 xs [y]) (m9 ps [a2H (a3K ps) y.1.after.toList]) (n+1)|false=>false) ys
def a2v {α β:Type}(l:List α):List β->List (α×β):=List.rec (motive:=λ_=>List β->List (α×β)) (λ_=>[]) (λa _ ih m=>match m with|[]=>[]|b::m=>(a,b)::ih m) l
def region (call:Nat->List Value->M Value)(ops:List Oper)(draw:Bool)(fr:List Value):M (Ex×List Value):=match draw with|false=>M.bind (a3R p T call ops ops fr) λfr'=>M.pure (.normal,fr')|true=>M.bind (a0o p T call ops ops fr) λy=>M.guard (a0U ops (a2v ops y.2) [] [] 0)<|M.pure (.normal,y.1)
def c3d (call:Nat->List Value->M Value)(ih:Code->List Value->M (Ex×List Value))(c:Code)(fr:List Value):M (Ex×List Value):=match c with
 |.skip=>M.pure (.normal,fr)|.region _ ops draw=>region p T call ops.toList draw fr|.seq a b=>M.bind (ih a fr) λr=>match r.1 with|.normal=>ih b r.2|.exit id=>M.pure (.exit id,r.2)|.ret=>M.pure (.ret,r.2)
 |.cond x a b=>M.obind (K4 T fr x) λv=>match v with
  |.bool t=>match t with|true=>ih a fr|false=>ih b fr
  |_=>M.fail
 |.block id b=>M.bind (ih b fr) λr=>match r.1 with
  |.normal=>M.pure (.normal,r.2)|.exit id'=>match Nat.beq id' id with|true=>M.pure (.normal,r.2)|false=>M.pure (.exit id',r.2)
  |.ret=>M.pure (.ret,r.2)
 |.loop b=>fList fr λfr=>M.bind (ih b fr) λr=>match r.1 with|.normal=>ih (.loop b) r.2|.exit id=>M.pure (.exit id,r.2)|.ret=>M.pure (.ret,r.2)
 |.exit id=>M.pure (.exit id,fr)|.ret=>M.pure (.ret,fr)|_=>M.fail
def a4z (call:Nat->List Value->M Value)(n:Nat):Code->List Value->M (Ex×List Value):=Nat.rec (motive:=λ_=>Code->List Value->M (Ex×List Value)) (λ_ _=>M.fail) (λ_ ih=>c3d p T call ih) n
def O7 (n:Nat):List Value:=Nat.rec (motive:=λ_=>List Value) [] (λ_ ih=>undef::ih) n
def d2d:Next->Option Value|.value v=>some v|_=>none
def b4W (f:Nat)(args:List Value):M Value:=M.guard (A9 plain args)<|M.obind (R6 p (callFunc f ⟨args⟩)) λx=>M.obind (d2d x) λv=>M.guard (C1 3 v)<|M.pure v
def a9g (fn:Func)(r:Ex×List Value):M Value:=match r.1 with|.exit _=>M.fail|_=>M.bind (a1P T r.2 fn.results.toList) λvs=>M.pure (a5K vs)
def enter (call:Nat->List Value->M Value)(n:Nat)(fn:Func)(f:Nat)(args:List Value):M Value:=match fn.body with|none=>b4W p f args|some c=>M.bind (a4z p T call n c (m9 args (O7 (fn.ntmps-j9 args)))) λr=>a9g T fn r
def a4P (ext:Nat->Option (List Value->M Value))(n:Nat):Nat->List Value->M Value:=Nat.rec (motive:=λ_=>Nat->List Value->M Value) (λ_ _=>M.fail) (λn ih f args=>match ext f with|some g=>g args|none=>M.obind (T.funcs.get f) λfn=>enter p T ih n fn f args) n
end
end Go.V
end
section
noncomputable section
namespace Go.V
inductive CR where
 | ret (v:Value)
 | pan (v:Value)
inductive Xc where
 | normal
 | exit (id:Nat)
 | ret
 | pan (v:Value)
abbrev A8:=Nat->List Value->M CR
def bcase {α:Type}(b:Bool)(x y:α):α:=Bool.rec (motive:=λ_=>α) y x b
def a2E {β:Type}(v:Value)(x y:M β):M β:=match v with|.bool b=>bcase b x y|_=>M.fail
def W4 {β:Type}(r:CR)(kn kp:Value->M β):M β:=match r with|.ret v=>kn v|.pan v=>kp v
def J1 {β:Type}(x:Xc)(kn:M β)(ke:Nat->M β)(kr:M β)(kp:Value->M β):M β:=match x with|.normal=>kn|.exit id=>ke id|.ret=>kr|.pan v=>kp v
def I9 {σ:Type}(body:σ->M (Xc×σ))(n:Nat):σ->M (Xc×σ):=Nat.rec (motive:=λ_=>σ->M (Xc×σ)) (λ_=>M.fail) (λ_ ih x=>M.bind (body x) λr=>J1 r.1 (ih r.2) (λid=>M.pure (.exit id,r.2)) (M.pure (.ret,r.2)) (λv=>M.pure (.pan v,r.2))) n
def b9r {α:Type}(l:List Value):(List Value->α)->α:=List.rec (motive:=λ_=>(List Value->α)->α) (λk=>k []) (λx _ ih k=>a5X x λx=>ih λl=>k (x::l)) l
def c3q (body:List Value->M (Xc×List Value))(n:Nat):List Value->M (Xc×List Value):=Nat.rec (motive:=λ_=>List Value->M (Xc×List Value)) (λ_=>M.fail) (λ_ ih x=>M.bind (body x) λr=>b9r r.2 λxs=>J1 r.1 (ih xs) (λid=>M.pure (.exit id,xs)) (M.pure (.ret,xs)) (λv=>M.pure (.pan v,xs))) n
structure Cb where
 bv:∀ β:Type,M Value→(Value→M β)→M β
 bc:∀ β:Type,M CR→(Value→M β)→(Value→M β)→M β
 lp:(List Value→M (Xc×List Value))→Nat→List Value→M (Xc×List Value)
 bj:∀ β:Type,M (Xc×List Value)→(Xc→List Value→M β)→M β
def i7:Cb:=⟨λ_ m k=>M.bind m k,λ_ m kn kp=>M.bind m λr=>W4 r kn kp,I9,λ_ m k=>M.bind m λr=>k r.1 r.2⟩
def a1J:Cb:=⟨λ_ m k=>M.bind m λv=>a5X v k,λ_ m kn kp=>M.bind m λr=>W4 r (λv=>a5X v kn) kp,c3q,λ_ m k=>M.bind m λr=>b9r r.2 λxs=>k r.1 xs⟩
def G3 (fr:List Value)(W:List Nat):List Value:=G4 (r6 fr) W
def a3A (vs:List Value)(W:List Nat):Nat->List Value->List Value:=List.rec (motive:=λ_=>Nat->List Value->List Value) (λ_ fr=>fr) (λt _ ih i fr=>ih (Nat.succ i) (a2L fr t (r6 vs i))) W
def C5 (W:List Nat)(vs fr:List Value):List Value:=a3A vs W 0 fr
section
variable (p:Program)(T:Tab)
def b8M:Nat->List Value->M Value:=λ_ _=>M.fail
def Y3 (call:A8):Nat->List Value->M Value:=λf vs=>M.bind (call f vs) λr=>W4 r M.pure λ_=>M.fail
def a9a (v:Value)(vs:List Value):Option (Nat×List Value):=match v with
 |.func fn first captured=>match fn with|.func g=>some (g,m9 first.toList (m9 vs captured.toList))|_=>none
 |_=>none
def a2P (fr:List Value)(f:Operand)(args:List Operand):Option (Nat×List Value):=match K4 T fr f with
 |some v=>match T0 T fr args with|some vs=>a9a v vs|none=>none
 |none=>none
def a3i:Value->Bool|.iface _ _=>true|_=>false
def a1T (cb:Cb)(call:A8){β:Type}(fr:List Value)(o:Op)(kn kp:Value->M β):M β:=match o with
 |.move x=>M.obind (K4 T fr x) kn|.assign x=>M.obind (K4 T fr x) kn|.call c=>match c.callee with|.value f=>M.obind (a2P T fr f c.args.toList) λga=>cb.bc β (call ga.1 ga.2) kn kp|.builtin b=>cb.bv β (S5 p T fr b c.args c.argTypes) kn|_=>M.fail
 |.panic x=>M.obind (K4 T fr x) λv=>M.guard (a3i v) (kp v)|o=>cb.bv β (E4 p T fr o) kn
def P0 (cb:Cb)(pn:Bool)(call:A8){β:Type}(os:List Oper):List Value->(Xc->List Value->M β)->M β:=List.rec (motive:=λ_=>List Value->(Xc->List Value->M β)->M β) (λfr k=>k .normal fr) (λo _ ih fr k=>a1T p T cb call fr o.op (λv=>ih (G2 fr o v) k) (λv=>bcase pn (k (.pan v) fr) M.fail)) os
def a2o:Option (Nat×Bool)->Option (Nat×Bool)->Bool|none,none=>true|some a,some b=>Nat.beq a.1 b.1&&(a.2==b.2)|_,_=>false
def Y9 (os:List Oper):List (Option (Nat×Bool)×List Oper):=List.rec (motive:=λ_=>List (Option (Nat×Bool)×List Oper)) [] (λo _ ih=>match ih with|[]=>[(o.guard,[o])]|g::gs=>match a2o o.guard g.1 with|true=>(g.1,o::g.2)::gs|false=>(o.guard,[o])::g::gs) os
def E1 (os:List Oper):List Nat:=List.rec (motive:=λ_=>List Nat) [] (λo _ ih=>match o.dst with|some t=>t::ih|none=>ih) os
def a5F (cb:Cb)(pn:Bool)(call:A8){β:Type}(ops:List Oper)(gs:List (Option (Nat×Bool)×List Oper)):List Value->(Xc->List Value->M β)->M β:=List.rec (motive:=λ_=>List Value->(Xc->List Value->M β)->M β) (λfr k=>k .normal fr) (λg _ ih fr k=>match g.1 with|none=>P0 p T cb pn call g.2 fr λex fr'=>J1 ex (ih fr' k) (λ_=>M.fail) M.fail λv=>k (.pan v) fr'|some jb=>M.obind (a2n ops jb.1) λt=>M.guard (!(a0D t (E1 g.2)))<|cb.bj β (bcase (Y6 jb.2 (r6 fr t)) (P0 p T cb pn call g.2 fr λex fr'=>M.pure (ex,G3 fr' (E1 g.2))) (M.pure (.normal,O7 (j9 (E1 g.2))))) λex vs=>J1 ex (ih (C5 (E1 g.2) vs fr) k) (λ_=>M.fail) M.fail λv=>bcase pn (k (.pan v) (C5 (E1 g.2) vs fr)) M.fail) gs
def b3S (call:A8)(ops:List Oper)(n:Nat)(U:List Nat)(vs:List Value)(W:List Nat):M (Xc×List Value):=M.bind (a0o p T (Y3 call) ops ops (C5 U vs (O7 n))) λy=>M.guard (a0U ops (a2v ops y.2) [] [] 0)<|M.pure (.normal,G3 y.1 W)
def a2q (ops os:List Oper):List Nat:=List.rec (motive:=λ_=>List Nat) [] (λo _ ih=>m9 (a1r ops o) ih) os
def b9o (i:Nat)(l:List Nat):List Nat:=match a0D i l with|true=>l|false=>i::l
def a0R (l:List Nat):List Nat:=List.rec (motive:=λ_=>List Nat) [] (λi _ ih=>b9o i ih) l
def b4Z (cb:Cb)(pn:Bool)(call:A8){β:Type}(ops:List Oper)(draw:Bool)(fr:List Value)(k:Xc->List Value->M β):M β:=match draw with|false=>a5F p T cb pn call ops (Y9 ops) fr k|true=>cb.bj β (b3S p T call ops (j9 fr) (a0R (a2q ops ops)) (G3 fr (a0R (a2q ops ops))) (E1 ops)) λ_ vs=>k .normal (C5 (E1 ops) vs fr)
def a3k (call:A8)(ops os:List Oper):List Value->M (Xc×List Value):=List.rec (motive:=λ_=>List Value->M (Xc×List Value)) (λfr=>M.pure (.normal,fr)) (λo _ ih fr=>match Y2 ops fr o with|true=>a1T p T i7 call fr o.op (λv=>ih (G2 fr o v)) (λv=>M.pure (.pan v,fr))|false=>ih (G2 fr o undef)) os
def b1F (call:A8)(ops:List Oper)(draw:Bool)(fr:List Value):M (Xc×List Value):=match draw with|false=>a3k p T call ops ops fr|true=>M.bind (a0o p T (Y3 call) ops ops fr) λy=>M.guard (a0U ops (a2v ops y.2) [] [] 0)<|M.pure (.normal,y.1)
def a4e (id:Nat)(x:Xc):Xc:=match x with
 |.exit id'=>match Nat.beq id' id with|true=>.normal|false=>.exit id'
 |x=>x
def O9 (N:Nat)(call:A8):Code->List Value->M (Xc×List Value)|.skip,fr=>M.pure (.normal,fr)|.region _ ops draw,fr=>b1F p T call ops.toList draw fr|.seq a b,fr=>M.bind (O9 N call a fr) λr=>J1 r.1 (O9 N call b r.2) (λid=>M.pure (.exit id,r.2)) (M.pure (.ret,r.2)) (λv=>M.pure (.pan v,r.2))|.cond x a b,fr=>M.obind (K4 T fr x) λv=>a2E v (O9 N call a fr) (O9 N call b fr)|.block id b,fr=>M.bind (O9 N call b fr) λr=>M.pure (a4e id r.1,r.2)|.loop b,fr=>I9 (O9 N call b) N fr|.exit id,fr=>M.pure (.exit id,fr)|.ret,fr=>M.pure (.ret,fr)|_,_=>M.fail
inductive Pl where
 | d
 | s (j:Option (List Nat)) (a b:Pl)
 | l (W:List Nat) (a:Pl)
def Pl.a:Pl->Pl|.d=>.d|.s _ a _=>a|.l _ a=>a
def Pl.b:Pl->Pl|.s _ _ b=>b|_=>.d
def Pl.j:Pl->Option (List Nat)|.s j _ _=>j|_=>none
def Pl.w:Pl->List Nat|.l W _=>W|_=>[]
def R8:Code->List Nat|.region _ ops _=>E1 ops.toList|.seq a b=>m9 (R8 a) (R8 b)|.cond _ a b=>m9 (R8 a) (R8 b)|.block _ b=>R8 b|.loop b=>R8 b|_=>[]
def a7Y (l m:List Nat):Bool:=A9 (λi=>a0D i m) l
def a0t:Code->List Nat|.seq a b=>m9 (a0t a) (a0t b)|.cond _ a b=>m9 (a0t a) (a0t b)|.block _ b=>a0t b|.loop b=>a0t b|.exit id=>[id]|_=>[]
def hasRet:Code->Bool|.seq a b=>hasRet a||hasRet b|.cond _ a b=>hasRet a||hasRet b|.block _ b=>hasRet b|.loop b=>hasRet b|.ret=>true|_=>false
def a1X {β:Type}(E:List Nat)(id:Nat)(k:Xc->M β):M β:=List.rec (motive:=λ_=>M β) M.fail (λe _ ih=>bcase (Nat.beq id e) (k (.exit e)) ih) E
def b1T {β:Type}(pn:Bool)(E:List Nat)(n r:Bool)(ex:Xc)(k:Xc->M β):M β:=J1 ex (bcase n (k .normal) M.fail) (λid=>a1X E id k) (bcase r (k .ret) M.fail) (λv=>bcase pn (k (.pan v)) M.fail)
def E0 (cb:Cb)(pn:Bool)(N:Nat)(call:A8):Code->Pl->(β:Type)->List Value->(Xc->List Value->M β)->M β
 |.skip,_,_,fr,k=>k .normal fr|.region _ ops draw,_,_,fr,k=>b4Z p T cb pn call ops.toList draw fr k|.seq a b,pl,β,fr,k=>match pl.j with|none=>E0 cb pn N call a pl.a β fr λex fr'=>J1 ex (E0 cb pn N call b pl.b β fr' k) (λid=>k (.exit id) fr') (k .ret fr') (λv=>k (.pan v) fr')|some W=>M.guard (a7Y (R8 a) W)<|cb.bj β (E0 cb pn N call a pl.a (Xc×List Value) fr λex fr'=>M.pure (ex,G3 fr' W)) λex vs=>b1T pn (a0R (a0t a)) true (hasRet a) ex λx=>J1 x (E0 cb pn N call b pl.b β (C5 W vs fr) k) (λid=>k (.exit id) (C5 W vs fr)) (k .ret (C5 W vs fr)) (λv=>k (.pan v) (C5 W vs fr))
 |.cond x a b,pl,β,fr,k=>M.obind (K4 T fr x) λv=>a2E v (E0 cb pn N call a pl.a β fr k) (E0 cb pn N call b pl.b β fr k)|.block id b,pl,β,fr,k=>E0 cb pn N call b pl.a β fr λex fr'=>k (a4e id ex) fr'|.loop b,pl,β,fr,k=>M.guard (a7Y (R8 b) pl.w)<|cb.bj β (cb.lp (λxs=>E0 cb pn N call b pl.a (Xc×List Value) (C5 pl.w xs fr) λex fr'=>M.pure (ex,G3 fr' pl.w)) N (G3 fr pl.w)) λex vs=>b1T pn (a0R (a0t b)) false (hasRet b) ex λx=>k x (C5 pl.w vs fr)|.exit id,_,_,fr,k=>k (.exit id) fr|.ret,_,_,fr,k=>k .ret fr|_,_,_,_,_=>M.fail
def a1L (cb:Cb){β:Type}(fr:List Value)(rs:List ResultVar):(List Value->M β)->M β:=List.rec (motive:=λ_=>(List Value->M β)->M β) (λk=>k []) (λr _ ih k=>match r with|.tmp t=>ih λvs=>k (r6 fr t::vs)|.cell a t=>R5 (r6 fr a) λad=>cb.bv β (a2F T t ad) λv=>ih λvs=>k (v::vs)) rs
def b8e (cb:Cb)(fn:Func)(ex:Xc)(fr:List Value):M CR:=J1 ex (a1L T cb fr fn.results.toList λvs=>M.pure (.ret (a5K vs))) (λ_=>M.fail) (a1L T cb fr fn.results.toList λvs=>M.pure (.ret (a5K vs))) λv=>M.pure (.pan v)
def a1m (cb:Cb)(pn:Bool)(N:Nat)(call:A8)(fn:Func)(c:Code)(pl:Pl)(args:List Value):M CR:=E0 p T cb pn N call c pl CR (m9 args (O7 (fn.ntmps-j9 args))) λex fr=>b8e T cb fn ex fr
def a4G (N:Nat)(call:A8)(fn:Func)(f:Nat)(args:List Value):M CR:=match fn.body with|none=>M.bind (b4W p f args) λv=>M.pure (.ret v)|some c=>M.bind (O9 p T N call c (m9 args (O7 (fn.ntmps-j9 args)))) λr=>b8e T i7 fn r.1 r.2
def b3q (ext:Nat->Option (List Value->M Value))(N n:Nat):A8:=Nat.rec (motive:=λ_=>A8) (λ_ _=>M.fail) (λ_ ih f args=>match ext f with|some g=>M.bind (g args) λv=>M.pure (.ret v)|none=>M.obind (T.funcs.get f) λfn=>a4G p T N ih fn f args) n
abbrev a0g:=Trie (A8->List Value->M CR)
def j0 (sh:a0g)(n:Nat):A8:=Nat.rec (motive:=λ_=>A8) (λ_ _=>M.fail) (λ_ ih f args=>M.obind (sh.get f) λg=>g ih args) n
end
end Go.V
end
section
namespace Go.V
theorem y9 {α}(l:List α):j9 l=l.length:=by induction l with|nil=>rfl|cons v l ih=>grind[j9]
theorem a0J {α}(l:List α):∀i,O6 l i=l[i]?:=by induction l with|nil=>intro i;rfl|cons v l ih=>intro i;cases i with|zero=>rfl|succ i=>exact ih i
theorem Q8 {α}(l:List α):∀i,z7 l i=l.drop i:=by induction l with|nil=>grind[z7]|cons v l ih=>intro i;cases i with|zero=>rfl|succ i=>exact ih i
theorem a0k {α}(l:List α):∀i,Q2 l i=l.take i:=by induction l with|nil=>grind[Q2]|cons v l ih=>intro i;cases i with|zero=>rfl|succ i=>simp_all[Q2]
theorem v8 {α}(l m:List α):m9 l m=l++m:=by induction l with|nil=>rfl|cons v l ih=>grind[m9]
theorem S9 {α β}(f:α->β)(l):G4 f l=l.map f:=by induction l with|nil=>rfl|cons v l ih=>grind[G4]
theorem I7 {α}(f:α->Bool)(v l):A9 f (v::l)=(f v&&A9 f l):=by show Bool.rec (motive:=λ_=>Bool) false (A9 f l) (f v)=_;cases f v<;>rfl
theorem c1v {α}(f:α->Bool)(l):A9 f l=l.all f:=by induction l with|nil=>rfl|cons v l ih=>rw[I7,ih];rfl
theorem C9 {α}(f:α->Bool)(l):A9 f l=true↔∀x∈l,f x=true:=by rw[c1v,uP]
theorem Trie.get_node_zero {α}(v:Option α)(l r):(Trie.node v l r).get 0=v:=rfl
theorem Trie.get_node_succ {α}(v:Option α)(l r k):(Trie.node v l r).get (k+1)=if k%2=0 then l.get (k/2)else r.get (k/2):=by show(match k%2 with|0=>l.get (k/2)|_+1=>r.get (k/2))=_;split<;>rename_i h<;>simp[h]
theorem Trie.get_leaf {α}(n):(Trie.leaf:Trie α).get n=none:=rfl
def Trie.put {α:Type}(o:Option α)(f:Nat)(t:Trie α)(n:Nat):Trie α:=Trie.putK o f t n id
theorem Trie.putK_eq' {α}(o f):∀(β) (t) (n) (q:Trie α->β),Trie.putK o f t n q=q (Trie.put o f t n):=by induction f with|zero=>intro β t n q;rfl|succ f ih=>intro β t n q;cases n with|zero=>cases t<;>rfl|succ k=>have hk:k%2=0\/k%2=1:=zy;cases t with|leaf=>show(match k%2 with|0=>Trie.putK o f .leaf (k/2) λt=>q (.node none t .leaf)|_+1=>Trie.putK o f .leaf (k/2) λt=>q (.node none .leaf t))=q (match k%2 with|0=>Trie.putK o f .leaf (k/2) λt=>id (Trie.node none t .leaf)|_+1=>Trie.putK o f .leaf (k/2) λt=>id (Trie.node none .leaf t));rcases hk with h|h<;>simp only[h]<;>rw[ih,ih]<;>rfl|node v l r=>show(match k%2 with|0=>Trie.putK o f l (k/2) λt=>q (.node v t r)|_+1=>Trie.putK o f r (k/2) λt=>q (.node v l t))=q (match k%2 with|0=>Trie.putK o f l (k/2) λt=>id (Trie.node v t r)|_+1=>Trie.putK o f r (k/2) λt=>id (Trie.node v l t));rcases hk with h|h<;>simp only[h]<;>rw[ih,ih]<;>rfl
theorem Trie.putK_eq {α β}(o f t n)(q:Trie α->β):Trie.putK o f t n q=q (Trie.put o f t n):=Trie.putK_eq' o f β t n q
theorem Trie.get_put {α}(o:Option α):∀(f) (t) (n),n<f->∀m,(Trie.put o f t n).get m=if m=n then o else t.get m:=by
 intro f;induction f with
  |zero=>omega|succ f ih=>
   intro t n h m;cases n with
    |zero=>
     cases t with
      |leaf=>show(Trie.node o .leaf .leaf).get m=_;cases m with|zero=>rfl|succ m=>simp[Trie.get_node_succ,Trie.get_leaf]
      |node v l r=>show(Trie.node o l r).get m=_;cases m with|zero=>rfl|succ m=>rfl
    |succ k=>
     have hk:k%2=0\/k%2=1:=zy;have hf:k/2<f:=zy;cases t with
      |leaf=>
       have e:Trie.put o (f+1) (.leaf:Trie α) (k+1)=match k%2 with|0=>Trie.node none (Trie.put o f .leaf (k/2)) .leaf|_+1=>Trie.node none .leaf (Trie.put o f .leaf (k/2)):=by show(match k%2 with|0=>Trie.putK o f .leaf (k/2) λt=>id (Trie.node none t .leaf)|_+1=>Trie.putK o f .leaf (k/2) λt=>id (Trie.node none .leaf t))=_;rcases hk with h|h<;>simp only[h]<;>rw[Trie.putK_eq]<;>rfl
       rw[e];cases m with|zero=>rcases hk with h|h<;>simp[h,Trie.get_node_zero,Trie.get_leaf]|succ m=>rcases hk with h|h<;>simp only[h,Trie.get_node_succ,ih _ _ hf,Trie.get_leaf]<;>(repeat' split)<;>first|rfl|omega
      |node v l r=>
       have e:Trie.put o (f+1) (.node v l r) (k+1)=match k%2 with|0=>Trie.node v (Trie.put o f l (k/2)) r|_+1=>Trie.node v l (Trie.put o f r (k/2)):=by show(match k%2 with|0=>Trie.putK o f l (k/2) λt=>id (Trie.node v t r)|_+1=>Trie.putK o f r (k/2) λt=>id (Trie.node v l t))=_;rcases hk with h|h<;>simp only[h]<;>rw[Trie.putK_eq]<;>rfl
       rw[e];cases m with|zero=>rcases hk with h|h<;>simp[h,Trie.get_node_zero]|succ m=>rcases hk with h|h<;>simp only[h,Trie.get_node_succ,ih _ _ hf]<;>(repeat' split)<;>first|rfl|omega
theorem a0C {α}(n)(k:Nat->α):a6t n k=k n:=by cases n<;>rfl
theorem d2i {α}(n)(k:Int->α):c7Z n k=k n:=by cases n<;>simp[c7Z,a0C]
theorem M4 {β α}(l):∀(k:List β->α),fList l k=k l:=by induction l with|nil=>intro k;rfl|cons x l ih=>intro k;exact ih λl=>k (x::l)
theorem c8b {α}(g)(k:Option Nat->α):c3C g k=k g:=by cases g<;>simp[c3C,a0C]
theorem c7R {α}(a)(k:Option Addr->α):b7B a k=k a:=by cases a with|none=>rfl|some a=>simp[b7B,a0C,c8b]
theorem a6b {α}(v)(k:Value->α):a5X v k=k v:=by cases v with|bool b=>cases b<;>rfl|_=>simp[a5X,d2i,a0C,c7R,M4]
theorem o7 {α β m}{f:α->M β}{s s2 b}(h:M.bind m f s=some (b,s2)):∃a s1,m s=some (a,s1)/\f a s1=some (b,s2):=by unfold M.bind at h;grind
theorem x8 {α β o}{f:α->M β}{s s2 b}(h:M.obind o f s=some (b,s2)):∃a,o=some a/\f a s=some (b,s2):=by cases o with|none=>cases h|some a=>exact⟨a,rfl,h⟩
theorem y8 {α c}{m:M α}{s s2 b}(h:M.guard c m s=some (b,s2)):c=true/\m s=some (b,s2):=by cases c with|false=>cases h|true=>exact⟨rfl,h⟩
theorem a1j {α}{o:Option α}{s s2 b}(h:M.lift o s=some (b,s2)):o=some b/\s2=s:=by cases o with|none=>cases h|some a=>cases h;simp_all
theorem j7 {α}{a b:α}{s s2}(h:M.pure a s=some (b,s2)):b=a/\s2=s:=by cases h;simp_all
theorem a7T {i o s s2}(h:rd i s=some (o,s2)):i<s.c/\s.h.get i=some o/\s2.c=s.c/\s2.h=s.h:=by unfold rd at h;split at h;rename_i hb;split at h;rename_i o' ho;cases h;simp_all;cases h;cases h
def Fr {α:Type}(m:M α):Prop:=∀s a s',m s=some (a,s')->∃dr dw,s'.r=dr++s.r/\s'.w=dw++s.w/\s.c<=s'.c/\(∀i,i∈dr->i<s'.c)/\(∀i,i∈dw->i<s'.c)/\(∀i,s.c<=i->i<s'.c->i∈dw)/\(∀i,i∉dw->s'.h.get i=s.h.get i)/\∀h2 r2 w2,(∀i,(i∈dr\/i∈dw)->i<s.c->h2.get i=s.h.get i)->∃h2',m ⟨s.c,h2,r2,w2⟩=some (a,⟨s'.c,h2',dr++r2,dw++w2⟩)/\(∀i,i∈dw->h2'.get i=s'.h.get i)/\(∀i,i∉dw->h2'.get i=h2.get i)
theorem Fr.pure {α}(a:α):Fr (M.pure a):=by intro s a' s' h;cases h;exact⟨[],[],rfl,rfl,xR _,zu,zu,λi h1 h2=>zy,λ_ _=>rfl,λh2 r2 w2 _=>⟨h2,rfl,zu,λ_ _=>rfl⟩⟩
theorem Fr.fail {α}:Fr (M.fail:M α):=by intro s a s' h;cases h
theorem Fr.lift {α}(o:Option α):Fr (M.lift o):=by cases o with|none=>exact Fr.fail|some a=>exact Fr.pure a
theorem Fr.obind {α β}(o){f:α->M β}(h:∀a,Fr (f a)):Fr (M.obind o f):=by cases o with|none=>exact Fr.fail|some a=>exact h a
theorem Fr.guard {α}(b){m:M α}(h:Fr m):Fr (M.guard b m):=by cases b with|true=>exact h|false=>exact Fr.fail
theorem Fr.bind {α β m}{f:α->M β}(hm:Fr m)(hf:∀a,Fr (f a)):Fr (M.bind m f):=by
 intro s b s2 h;cases e:m s with
  |none=>grind[M.bind]|some x=>
   obtain⟨a,s1⟩:=x;have h':f a s1=some (b,s2):=by grind[M.bind]
   obtain⟨dr1,dw1,e1,e2,e3,e4,e5,e6,e7,e8⟩:=hm s a s1 e;obtain⟨dr2,dw2,g1,g2,g3,g4,g5,g6,g7,g8⟩:=hf a s1 b s2 h';refine⟨dr2++dr1,dw2++dw1,by rw[g1,e1,wq],by rw[g2,e2,wq],zy,?_,?_,?_,?_,?_⟩;grind;grind;grind;simp_all;intro h2 r2 w2 hag;obtain⟨h2',q1,q2,q3⟩:=e8 h2 r2 w2 (λi hi hc=>hag i (by rcases hi with hi|hi<;>simp[hi]) hc);obtain⟨h3,p1,p2,p3⟩:=g8 h2' (dr1++r2) (dw1++w2) zr;grind[M.bind]
theorem Fr.rd (i:Nat):Fr (rd i):=by intro s a s' h;unfold V.rd at h;split at h;rename_i hb;have hlt:i<s.c:=zq;split at h;rename_i o ho;cases h;refine⟨[i],[],rfl,rfl,xR _,zr,zu,λj h1 h2=>zr,λ_ _=>rfl,?_⟩;intro h2 r2 w2 hag;refine⟨h2,?_,zu,λ_ _=>rfl⟩;have:=hag i zu hlt;grind[V.rd];cases h;cases h
theorem Fr.wr (i:Nat)(o:VObj):Fr (wr i o):=by intro s a s' h;unfold V.wr at h;split at h;rename_i hb;have hlt:i<s.c:=zq;split at h;rename_i o' ho;rw[Trie.putK_eq]at h;cases h;refine⟨[],[i],rfl,rfl,xR _,zu,zr,λj h1 h2=>zr,?_,?_⟩;simp_all[Trie.get_put];intro h2 r2 w2 hag;have h1:=hag i zu hlt;refine⟨Trie.put (some o) (i+1) h2 i,?_,?_,?_⟩;grind[V.wr,Trie.putK_eq];intro j hj;obtain rfl:j=i:=zr;simp_all[Trie.get_put];simp_all[Trie.get_put];cases h;cases h
theorem b1v (o s):new o s=some (s.c,⟨s.c+1,Trie.put (some o) (s.c+1) s.h s.c,s.r,s.c::s.w⟩):=by unfold new;rw[Trie.putK_eq,a0C]
theorem Fr.new (o:VObj):Fr (new o):=by intro s a s' h;rw[b1v]at h;cases h;refine⟨[],[s.c],rfl,rfl,wy _,zu,zu,?_,?_,?_⟩;grind;simp_all[Trie.get_put];intro h2 r2 w2 _;refine⟨Trie.put (some o) (s.c+1) h2 s.c,b1v _ _,?_,?_⟩;intro j hj;obtain rfl:j=s.c:=zr;simp_all[Trie.get_put];simp_all[Trie.get_put]
end Go.V
end
