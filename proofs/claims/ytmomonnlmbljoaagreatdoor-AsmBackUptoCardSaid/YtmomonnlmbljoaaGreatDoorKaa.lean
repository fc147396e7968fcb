import Derived.Test.YtmomonnlmbljoaaGreatDoorProg
import Derived.Laws.AppendOwn
import Derived.Laws.Tables
import Derived.Great.BuildSlice
import Derived.Lib.IndexBytes
import Derived.Laws.BytesString
import Derived.Orders
import Derived.LoopN
import Derived.RangeFuncKeeps
import Derived.Lib.Fields
import Derived.KernelRfl
import Derived.Laws.StructEq
import Derived.Lib.IndexMore
import Derived.Lib.Join
import Derived.Lib.Repeat
import Derived.Shelf.LaysM
import Derived.Shelf.Strings.Fields
import Derived.Shelf.Strings.OnBuilder
import Derived.Shelf.Strings.Repeat
import Derived.Shelf.Strings.Search3
import Derived.Shelf.Spec.BitsCarry
import Derived.Shelf.Strconv.Itoa4
import Derived.Ground.NamesProg
import Derived.RangeFuncWrites
import Derived.RangeFuncLeaves
import Derived.Shelf.Abstract
import Derived.WalkKit
import Derived.OwnWalkIn
import Derived.TacticsInMore
import Derived.Shelf.Bits.Mul64
import Derived.Lib.AppendIntMem
import Derived.Lib.ItoaNum
import Derived.ProofKit
import Derived.Deep.Slices
import Derived.OpenShut
import Derived.Handed
import Derived.HandedShaped
import Derived.LaidLaws
import Derived.Lay
import Derived.JoinedOf
import Derived.SevenTiedAt
import Derived.Deep.DeepHandedRow
import Derived.Deep.DeepWitnessRowRef
import GoSem.Step
import Derived.Laws.Cells
import Derived.Below
set_option maxRecDepth 1000000
set_option maxHeartbeats 4000000
set_option linter.unusedVariables false
set_option linter.unusedSimpArgs false
namespace Go
theorem mr{a b:Prop}(x:a)(y:b):a/\b:=⟨x,y⟩
abbrev wP:=@Nat.le_refl
abbrev wO:=@List.getElem?_eq_getElem
abbrev wM:=@List.getElem?_eq_some_iff
abbrev wL:=@decide_eq_false
abbrev wK:=@Nat.eq_of_beq_eq_true
abbrev wJ:=@decide_eq_true
abbrev wI:=@Bool.and_eq_true
abbrev wH:=@Eq.trans
abbrev wG:=@Nat.lt_succ_self
abbrev wF:=@List.append_nil
abbrev wE:=@List.length_cons
abbrev wD:=@Nat.lt_of_lt_of_le
abbrev wC:=@List.length_append
abbrev wB:=@List.length_map
abbrev vz:=@Go.Result.andThen_ok
abbrev vw:=@congrArg
abbrev vv:=@Nat.add_right_comm
abbrev vo:=@Nat.le_succ
abbrev vg:=@List.getElem?_eq_none
abbrev vZ:=@Go.Sem.run_bind
abbrev vY:=@Nat.zero_add
abbrev vX:=@List.append_assoc
abbrev vW:=@List.getElem?_map
abbrev vV:=@List.getElem?_append_right
abbrev vU:=@Nat.le_of_ble_eq_true
abbrev vT:=@List.mem_of_getElem?
abbrev vS:=@of_decide_eq_true
abbrev vR:=@Nat.le_trans
abbrev vQ:=@List.getElem?_append_left
abbrev vP:=@List.mem_singleton
abbrev vN:=@if_neg
abbrev vM:=@Go.Sem.run_pure
abbrev vK:=@List.flatMap_cons
abbrev vJ:=@List.mem_cons_of_mem
abbrev vI:=@List.nil_append
abbrev vH:=@Nat.zero_le
abbrev vG:=@if_pos
abbrev vF:=@decide_eq_true_eq
abbrev vE:=@Bool.false_or
abbrev vD:=@Nat.mul_one
abbrev vC:=@Nat.add_zero
abbrev vB:=@Int.ofNat_eq_natCast
abbrev uz:=@decide_eq_false_iff_not
abbrev uy:=@List.mem_cons
abbrev uw:=@List.length_drop
abbrev uu:=@List.map_append
abbrev ut:=@List.cons_append
abbrev uq:=@List.length_nil
abbrev uo:=@Bool.false_eq_true
abbrev um:=@List.mem_cons_self
abbrev uk:=@Int.ofNat_lt
abbrev uj:=@Nat.lt_or_ge
abbrev ui:=@List.ext_getElem?
abbrev uh:=@List.map_cons
abbrev ug:=@List.length_eq_zero_iff
abbrev uf:=@List.mem_append
abbrev uZ:=@Nat.blt_eq
abbrev uY:=@List.length_reverse
abbrev uX:=@Bool.and_self
abbrev uW:=@Nat.lt_irrefl
abbrev uV:=@Bool.true_or
abbrev uU:=@Go.Proofs.Tryz.underlying3
abbrev uT:=@Array.length_toList
abbrev uS:=@Bool.not_false
abbrev uR:=@Bool.false_and
abbrev uQ:=@List.mem_map
abbrev uP:=@of_decide_eq_false
abbrev uO:=@List.getElem_mem
abbrev uM:=@Go.Proofs.Tryz.underlying5
abbrev uL:=@List.flatMap_append
abbrev uK:=@Bool.true_and
abbrev uJ:=@Bool.and_false
abbrev uI:=@Nat.ble_eq_true_of_le
abbrev uH:=@List.mem_range
abbrev uG:=@List.getElem?_drop
abbrev uF:=@Nat.lt_of_le_of_lt
abbrev uE:=@Nat.add_sub_cancel_left
abbrev uD:=@Go.World.cell?_setCell_same'
abbrev uC:=@List.mem_iff_getElem?
abbrev tq:=@List.map_map
abbrev tZ:=@Int.ofNat_le
abbrev tY:=@decide_true
abbrev tX:=@List.drop_zero
abbrev tV:=@List.getElem?_cons_succ
abbrev tT:=@Go.cell_kept
abbrev tQ:=@decide_false
abbrev tO:=@List.drop_of_length_le
abbrev tN:=@if_false
abbrev tL:=@Nat.mod_eq_of_lt
abbrev tK:=@Go.Proofs.Tryz.underlying9
abbrev tJ:=@List.getElem?_take
abbrev tH:=@List.drop_eq_getElem_cons
abbrev tF:=@Option.isSome_iff_exists
abbrev tC:=@Go.World.cell?_of_block
abbrev sw:=@Bool.not_eq_true'
abbrev sj:=@Go.KeepsOthers.setCell
abbrev si:=@Go.Proofs.Tryz.underlying4
abbrev sZ:=@Nat.and_le_right
abbrev sW:=@Go.DataW.trod_int
abbrev sV:=@List.flatMap_singleton
abbrev sU:=@Go.Proofs.Tryz.underlying145
abbrev sS:=@Go.Proofs.Tryz.zeroValue5
abbrev sQ:=@Option.some.inj
abbrev sP:=@Bool.and_true
abbrev sO:=@List.size_toArray
abbrev sN:=@Go.Proofs.Tryz.zeroValue145
abbrev sM:=@Go.Proofs.Tryz.underlying23
abbrev sK:=@Array.getElem?_eq_getElem
abbrev sJ:=@Bool.or_eq_false_iff
abbrev sI:=@Nat.add_mul
abbrev sH:=@Nat.pow_add
abbrev sG:=@Nat.lt_trans
abbrev sF:=@Nat.mul_zero
abbrev sD:=@Array.toList_append
abbrev rz:=@Bool.not_true
abbrev ru:=@Nat.add_assoc
abbrev rq:=@Nat.eq_zero_or_pos
abbrev rZ:=@Go.RowKit.Below.refl
abbrev rY:=@Go.Proofs.Tryz.zeroValue3
abbrev rX:=@Go.Proofs.Tryz.zeroValue4
abbrev rW:=@Go.Proofs.Tryz.zeroValue9
abbrev rV:=@Go.Proofs.Tryz.underlying194
abbrev rU:=@Go.Proofs.Tryz.underlying149
abbrev rT:=@Go.grownBy_putObj'
abbrev rR:=@Array.toList_replicate
abbrev rQ:=@List.eq_nil_of_length_eq_zero
abbrev rP:=@Go.Proofs.Tryz.zeroValue194
abbrev rO:=@Array.getElem?_modify
abbrev rM:=@Go.Proofs.Tryz.sizeOf5
abbrev rJ:=@Go.Proofs.Tryz.sizeOf145
abbrev rH:=@Nat.zero_mul
abbrev rG:=@Nat.succ_pos
abbrev rF:=@Array.getD_eq_getD_getElem?
abbrev rE:=@List.all_eq_true
abbrev rD:=@Go.Proofs.Tryz.underlying0
abbrev rC:=@Array.size_replicate
abbrev rA:=@List.length_take
abbrev qz:=@decide_eq_decide
abbrev qy:=@Array.getElem?_eq_some_iff
abbrev qx:=@Go.Proofs.Tryz.isAgg145
abbrev qw:=@Go.Proofs.Tryz.isAgg5
abbrev qo:=@Go.Proofs.Tryz.zeroValue0
abbrev qm:=@List.getElem?_eq_none_iff
abbrev ql:=@Nat.sub_zero
abbrev qj:=@Go.Proofs.Tryz.sizeOf3
abbrev qh:=@Go.Proofs.Tryz.sizeOf4
abbrev qg:=@Go.Proofs.Tryz.sizeOf9
abbrev qf:=@Go.Proofs.Tryz.underlying222
abbrev qc:=@Go.Proofs.Tryz.sizeOf194
abbrev qb:=@Go.World.block_lt_of_cell?
abbrev qZ:=@List.getElem?_set
abbrev qY:=@Go.Proofs.Tryz.underlying20
abbrev qX:=@Go.Proofs.Tryz.zeroValue149
abbrev qW:=@Nat.lt_succ_of_lt
abbrev qV:=@Go.World.frozen?_of_block
abbrev qU:=@List.take_of_length_le
abbrev qR:=@List.drop_eq_nil_of_le
abbrev qQ:=@Go.Proofs.Tryz.isAgg3
abbrev qP:=@Go.Proofs.Tryz.isAgg4
abbrev qO:=@Go.Proofs.Tryz.isAgg9
abbrev qN:=@Go.Proofs.Tryz.isAgg194
abbrev qM:=@Int.ofNat.inj
abbrev qL:=@Nat.le_add_right
abbrev qK:=@List.range'_succ
abbrev qJ:=@Array.all_eq_true_iff_forall_mem
abbrev qI:=@Go.Proofs.Tryz.zeroValue20
abbrev qH:=@Go.Proofs.Tryz.zeroValue23
abbrev qG:=@Go.run_takeDeferred
abbrev qF:=@Go.World.cell?_spot
abbrev qE:=@Array.getElem?_toList
abbrev qD:=@if_true
abbrev qC:=@List.dropLast_eq_take
abbrev qB:=@List.drop_eq_nil_iff
abbrev qA:=@Option.map_some
abbrev pz:=@List.range_eq_range'
abbrev pq:=@Go.callsIn_wide
abbrev pg:=@Go.Proofs.Tryz.sizeOf0
abbrev pY:=@Array.replicate_succ
abbrev pX:=@Array.replicate_zero
abbrev pW:=@Bool.or_true
abbrev pV:=@Nat.and_two_pow_sub_one_eq_mod
abbrev pU:=@Bool.or_eq_true
abbrev pR:=@Nat.pow_le_pow_right
abbrev pQ:=@List.map_nil
abbrev pO:=@List.length_dropLast
abbrev pM:=@List.dropLast_append_of_ne_nil
abbrev pJ:=@List.getElem_of_mem
abbrev pI:=@Nat.add_sub_cancel'
abbrev pG:=@List.append_toArray
abbrev pF:=@Ne.symm
abbrev pE:=@Array.getElem?_setIfInBounds
abbrev oz:=@List.drop_drop
abbrev ow:=@Go.Proofs.Tryz.sizeOf149
abbrev ou:=@Nat.le_zero
abbrev oq:=@Go.Proofs.Tryz.isAgg0
abbrev om:=@List.find?_eq_none
abbrev oh:=@Go.run_loadCells_list
abbrev og:=@Go.Proofs.Tryz.underlying250
abbrev oZ:=@Go.Proofs.Tryz.underlying271
abbrev oW:=@Go.Proofs.Tryz.underlying253
abbrev oV:=@Nat.eq_of_mul_eq_mul_right
abbrev oU:=@Go.Proofs.Tryz.sizeOf20
abbrev oQ:=@Go.Proofs.Tryz.isAgg149
abbrev oP:=@Go.Proofs.Tryz.sizeOf23
abbrev oO:=@Go.ownFrom_below
abbrev oN:=@List.reverse_cons
abbrev oM:=@Nat.lt_trichotomy
abbrev oL:=@Go.Proofs.Tryz.underlying38
abbrev oK:=@List.push_toArray
abbrev oJ:=@Go.DataW.trod_struct
abbrev oI:=@Go.World.cell?_setCell_other
abbrev oH:=@Array.ext'
abbrev oG:=@Array.getElem?_push_size
abbrev oF:=@Nat.le_of_not_lt
abbrev oD:=@Go.Proofs.Tryz.isAgg20
abbrev oC:=@Go.Proofs.Tryz.isAgg23
abbrev nz:=@List.getElem?_cons_zero
abbrev ny:=@Go.Input.okWide_of_okWideB
abbrev nu:=@UInt8.toNat_inj
abbrev ni:=@Go.Oper.semAt_none
abbrev nZ:=@Nat.div_le_self
abbrev nY:=@Go.Proofs.enters_of
abbrev nX:=@List.find?_cons
abbrev nW:=@Nat.div_one
abbrev nV:=@Go.frozen_kept
abbrev nU:=@Go.OwnFrom.and
abbrev nR:=@Go.wp_loop_rounds
abbrev nQ:=@Go.run_newObj
abbrev nP:=@beq_iff_eq
abbrev nN:=@Go.wp_cond_false
abbrev nM:=@List.all_cons
theorem zy{p:Prop}(h:p:=by omega):p:=h
theorem zw{p:Prop}(h:p:=by kernel_rfl):p:=h
theorem zu{p:Prop}(h:p:=by decide):p:=h
theorem zq{p:Prop}(h:p:=by simp):p:=h
theorem zo{p:Prop}(h:p:=by grind):p:=h
theorem zn{p:Prop}(h:p:=by simp_all):p:=h
theorem zm{p:Prop}(h:p:=by intro q;cases q):p:=h
theorem zl{p:Prop}(h:p:=by simp;omega):p:=h
theorem zk{p:Prop}(h:p:=by cases e):p:=h
theorem zi{p:Prop}(h:p:=by cases b<;>rfl):p:=h
theorem zg{p:Prop}(h:p:=by cases h):p:=h
theorem ze{p:Prop}(h:p:=by cases q):p:=h
theorem zb{p:Prop}(h:p:=by cases e;rfl):p:=h
theorem za{p:Prop}(h:p:=by rfl):p:=h
theorem zZ{p:Prop}(h:p:=by simpa using hi):p:=h
theorem zY{p:Prop}(h:p:=by rw[h];simp):p:=h
theorem zX{p:Prop}(h:p:=by rw[hj];decide):p:=h
theorem zW{p:Prop}(h:p:=by rw[q,a0D hk za]):p:=h
theorem zV{p:Prop}(h:p:=by dsimp only;omega):p:=h
theorem zU{p:Prop}(h:p:=by simp(maxSteps:=9999999) (disch:=try exact dx)only[d9]):p:=h
theorem zT{p:Prop}(h:p:=by simp at hk;omega):p:=h
theorem zS{p:Prop}(h:p:=by rw[uz];omega):p:=h
theorem zR{p:Prop}(h:p:=by rw[vF];omega):p:=h
theorem zQ{p:Prop}(h:p:=by have:=hUc _ hi;omega):p:=h
theorem zP{p:Prop}(h:p:=by rw[fA,fB,fN,fl];rfl):p:=h
theorem zO{p:Prop}(h:p:=by dsimp only;omega):p:=h
theorem zN{p:Prop}(h:p:=by have:=uk.1 h;omega):p:=h
theorem zM{p:Prop}(h:p:=by rw[q,a0D hk (by unfold a2q;rw[hA];rfl)]):p:=h
theorem zL{p:Prop}(h:p:=by rw[hs c zy zy zy];simp(disch:=try exact wQ)only[d9,o7]):p:=h
theorem zK{p:Prop}(h:p:=by rw[hs j zy zy k2];simp(disch:=try exact wQ)only[d9]):p:=h
theorem zJ{p:Prop}(h:p:=by have:=vw List.tail hd;simpa using this):p:=h
theorem zI{p:Prop}(h:p:=by obtain⟨z,h34'⟩:=h34 (upd h c (.cells [(.int .i64 X.op,0),(.int .i64 X.A,0),(.int .i64 X.B,0),(.int .u64 (Int.ofNat X.N),0),(.int .i64 X.k,0),(.int .i64 X.v,0),(.int .i64 X.i,0),(tv,0),(lv,0)] 0 false)) (λb hb=>d9 zy);obtain⟨h35,h39,h36,h36',h37c,h37,h37',h38,h44,h96⟩:=C;obtain⟨ta,te,rfl,_⟩:=id Ht;obtain⟨la,le,rfl,_⟩:=id Hl;simp only[D9,hA,hB,wB]at h34';have nl:=Y1 X.op;have l1:=K7 a zy;have l2:=K7 b zy;have q1:=h37 a zy;have q2:=h37' b zy;have q3:=h37' a zy;have q4:=h37c a zy;simp(maxSteps:=9999999) (disch:=try exact dy)only[gD,a0T,a4d,a1e,a1d,D9,hA,hB,h34',h35,h39,h36,h38,h44,h96,q1,U1,Nat.reduceMul,ap9,Nat.reduceAdd];exact l9.done ⟨by simp only[U8,E9,wF],λi hi=>by simp(maxSteps:=9999999) (disch:=try exact dy)only[d9]⟩):p:=h
theorem zH{p:Prop}(h:p:=by obtain⟨o,A,B,N,k,v,bi,ts,ls⟩:=X;obtain⟨⟨a,hA,hA1,hA2⟩,⟨b,hB,hB1,hB2⟩,hN2,hN3,hb,ht,hl,hr⟩:=H;simp only at ho hA hB hN2 hN3 hb ht hl hr hN;subst ho;subst hA;subst hB;obtain⟨rfl,rfl,rfl⟩:=hb zu;obtain rfl:=ht zu;obtain rfl:=hl zu;obtain rfl:=hB2 rfl;obtain rfl:=hN2 rfl;exact⟨⟨op,a,0,0,0,0,0,[],[]⟩,[.w (Lib.decDigits a)],.one hi zu hA1,rfl,by show S.U8 a=_;simp[S.U8,It.b],rfl⟩):p:=h
theorem zG{p:Prop}(h:p:=by rw[a1x 3 bs.length (bs.length+1) k ab 0 (some g2) (wG _) zu,a8Q]):p:=h
theorem zF{p:Prop}(h:p:=by have:=hs i zy k3;simp(disch:=try exact wQ)only[d9]at this;exact this):p:=h
theorem zD{p:Prop}(h:p:=by show(match l[i]? with|none=>_|some n=>_)=_;rw[hi];simp only[hk,ht,ht2,A8,D8,Nat.reduceEqDiff,tQ,tY,Bool.or_self,eX,hop,f1];rfl):p:=h
theorem zC{p:Prop}(h:p:=by show bcase (Y6 n.k n.t) (bcase (decide ((a0w L n.t).2=0)) (bcase (hdI t) _ _) _) _=_;rw[m1,wJ m2,eI];rfl):p:=h
theorem zB{p:Prop}(h:p:=by obtain⟨z,h34'⟩:=h34 (upd h c (.cells [(.int .i64 X.op,0),(.int .i64 X.A,0),(.int .i64 X.B,0),(.int .u64 (Int.ofNat X.N),0),(.int .i64 X.k,0),(.int .i64 X.v,0),(.int .i64 X.i,0),(tv,0),(lv,0)] 0 false)) (λb hb=>d9 zy);obtain⟨h35,h39,h36,h36',h37c,h37,h37',h38,h44,h96⟩:=C;obtain⟨ta,te,rfl,_⟩:=id Ht;obtain⟨la,le,rfl,_⟩:=id Hl;simp only[D9,hA,hB,wB]at hq;have nx:=λ(c:Nat) (h:Trie VObj) (r w:List Nat)=>b3K (c:=c) (h:=h) (r:=r) (w:=w) hq rfl;simp only[D9,hA,hB,wB]at h34';have nl:=Y1 X.op;have l1:=K7 a zy;have l2:=K7 b zy;have q1:=h37 a zy;have q2:=h37' b zy;have q3:=h37' a zy;have q4:=h37c a zy;cases hz:b.beq 0 with|true=>simp(maxSteps:=9999999) (disch:=try exact dy)only[gD,a0T,a1e,a1d,D9,hA,hB,h34',h35,h39,h38,h44,h96,h41,nx,hz,U1,Nat.reduceMul,ap9,Nat.reduceAdd];exact l9.done ⟨by simp only[a0s,D8,hz,E9,vI,wF],λi hi=>by simp(maxSteps:=9999999) (disch:=try exact dy)only[d9]⟩|false=>simp(maxSteps:=9999999) (disch:=try exact dy)only[gD,a0T,a4d,a1e,a1d,D9,hA,hB,h34',h35,h39,h36',h38,h44,h96,q2,h41,nx,hz,U1,Nat.reduceMul,ap9,Nat.reduceAdd];exact l9.done ⟨by simp only[a0s,U8,A8,hz,E9,ut,wF],λi hi=>by simp(maxSteps:=9999999) (disch:=try exact dy)only[d9]⟩):p:=h
theorem zA{p:Prop}(h:p:=by obtain⟨z,h34'⟩:=h34 (upd h c (.cells [(.int .i64 X.op,0),(.int .i64 X.A,0),(.int .i64 X.B,0),(.int .u64 (Int.ofNat X.N),0),(.int .i64 X.k,0),(.int .i64 X.v,0),(.int .i64 X.i,0),(tv,0),(lv,0)] 0 false)) (λb hb=>d9 zy);obtain⟨h35,h39,h36,h36',h37c,h37,h37',h38,h44,h96⟩:=C;obtain⟨ta,te,rfl,_⟩:=id Ht;obtain⟨la,le,rfl,_⟩:=id Hl;simp only[D9,hA,hB,wB]at h34';have nl:=Y1 X.op;have l1:=K7 a zy;have l2:=K7 b zy;have q1:=h37 a zy;have q2:=h37' b zy;have q3:=h37' a zy;have q4:=h37c a zy;cases hz:b.beq 0 with|true=>simp(maxSteps:=9999999) (disch:=try exact dy)only[gD,a0T,a4d,a1e,a1d,D9,hA,hB,h34',h35,h39,h36,h38,h44,h96,q1,hz,U1,Nat.reduceMul,ap9,Nat.reduceAdd];exact l9.done ⟨by simp only[a0s,U8,D8,hz,E9,vI,wF],λi hi=>by simp(maxSteps:=9999999) (disch:=try exact dy)only[d9]⟩|false=>simp(maxSteps:=9999999) (disch:=try exact dy)only[gD,a0T,a4d,a1e,a1d,D9,hA,hB,h34',h35,h39,h36,h36',h38,h44,h96,q1,q2,hz,U1,Nat.reduceMul,ap9,Nat.reduceAdd];exact l9.done ⟨by simp only[a0s,U8,A8,hz,E9,ut,wF],λi hi=>by simp(maxSteps:=9999999) (disch:=try exact dy)only[d9]⟩):p:=h
theorem yz{p:Prop}(h:p:=by obtain⟨z,h34'⟩:=h34 (upd h c (.cells [(.int .i64 X.op,0),(.int .i64 X.A,0),(.int .i64 X.B,0),(.int .u64 (Int.ofNat X.N),0),(.int .i64 X.k,0),(.int .i64 X.v,0),(.int .i64 X.i,0),(tv,0),(lv,0)] 0 false)) (λb hb=>d9 zy);obtain⟨h35,h39,h36,h36',h37c,h37,h37',h38,h44,h96⟩:=C;obtain⟨ta,te,rfl,_⟩:=id Ht;obtain⟨la,le,rfl,_⟩:=id Hl;simp only[D9,hA,hB,wB]at h34';have nl:=Y1 X.op;have l1:=K7 a zy;have l2:=K7 b zy;have q1:=h37 a zy;have q2:=h37' b zy;have q3:=h37' a zy;have q4:=h37c a zy;simp(maxSteps:=9999999) (disch:=try exact dy)only[gD,a0T,a1e,a1d,D9,hA,hB,h34',h35,h39,h38,h44,h96,h42,U1,Nat.reduceMul,ap9,Nat.reduceAdd];exact l9.done ⟨by simp only[E9,wF],λi hi=>by simp(maxSteps:=9999999) (disch:=try exact dy)only[d9]⟩):p:=h
theorem yx{p:Prop}(h:p:=by obtain⟨o,A,B,N,k,v,bi,ts,ls⟩:=X;obtain⟨⟨a,hA,hA1,hA2⟩,⟨b,hB,hB1,hB2⟩,hN2,hN3,hb,ht,hl,hr⟩:=H;simp only at ho hA hB hN2 hN3 hb ht hl hr hN;subst ho;subst hA;subst hB;obtain⟨rfl,rfl,rfl⟩:=hb zu;obtain rfl:=ht zu;obtain rfl:=hl zu;obtain rfl:=hN2 rfl;refine⟨⟨op,a,b,0,0,0,0,[],[]⟩,_,.two hi zu hA1 hB1,rfl,?_,rfl⟩;show S.a6J a b=_;unfold S.a6J;cases Nat.beq a 0&&Nat.beq b 0<;>first|rfl|grind[S.U8,It.b,bcase]):p:=h
theorem yw{p:Prop}(h:p:=by obtain⟨o,A,B,N,k,v,bi,ts,ls⟩:=X;obtain⟨⟨a,hA,hA1,hA2⟩,⟨b,hB,hB1,hB2⟩,hN2,hN3,hb,ht,hl,hr⟩:=H;simp only at ho hA hB hN2 hN3 hb ht hl hr hN;subst ho;subst hA;subst hB;obtain⟨rfl,rfl,rfl⟩:=hb zu;obtain rfl:=ht zu;obtain rfl:=hl zu;obtain rfl:=hN2 rfl;refine⟨⟨op,a,b,0,0,0,0,[],[]⟩,_,.ini hi zu hA1 hB1,rfl,?_,rfl⟩;show E5 (S.a0s b) (S.U8 a)=_;rw[b1G];simp[E9,S.U8,It.b]):p:=h
theorem yu{p:Prop}(h:p:=by rcases H with⟨rfl,rfl⟩|⟨a,rfl,rfl⟩|⟨a,cap,rfl,h1,h2,h3,h4⟩;exact VR.plain rfl;exact VR.slice (a6p hj) (wP _) zu (wP _) (Or.inl rfl) (Or.inl rfl);exact VR.slice (a6p hj) (wP _) zu h1 (Or.inr h2) (Or.inr ⟨rfl,by simp[pOf],λh=>zg⟩)):p:=h
theorem yo{p:Prop}(h:p:=by simp(maxSteps:=9999999) (disch:=try exact dy)only[d9]):p:=h
theorem yn{p:Prop}(h:p:=by have:1000000<=NN:=zu;omega):p:=h
theorem ym{p:Prop}(h:p:=by rw[wC,hl];rfl):p:=h
theorem yl{p:Prop}(h:p:=by unfold sgn;split<;>omega):p:=h
theorem yj{p:Prop}(h:p:=by rcases hor with h0|h0;rw[h0]at hbn;cases hbn;exact h0):p:=h
theorem yg{p:Prop}(h:p:=by rw[a3g,uY,wE];omega):p:=h
theorem yf{p:Prop}(h:p:=by have:=vw List.length hd;simp at this;omega):p:=h
theorem yc{p:Prop}(h:p:=by rw[q,a0D hk (by unfold a2q;rw[hA,hB];rfl)]):p:=h
theorem yZ{p:Prop}(h:p:=by show(w.heap.push _)[w.heap.size]?=_;simp):p:=h
theorem yY{p:Prop}(h:p:=by simpa[qB]using hd):p:=h
theorem yX{p:Prop}(h:p:=by have h9:=H.z2;have h8:=hs.2.1;simp only[wE]at h9;omega):p:=h
theorem yV{p:Prop}(h:p:=by rw[P9,a1N (by have:=hfl b0;show bs.length*3+2+1<=_;omega)];rfl):p:=h
theorem yU{p:Prop}(h:p:=by have:=vw (λt=>t[0]?) hd;simpa using this):p:=h
theorem yT{p:Prop}(h:p:=by simp(disch:=try exact wQ)only[d9]):p:=h
theorem yS{p:Prop}(h:p:=by have:=H.z2;have h8:=hs.2.1;obtain⟨Y,hY,hLY⟩:=H.L;dsimp only;rw[hLY,wC];omega):p:=h
theorem yR{p:Prop}(h:p:=by unfold N7;rw[hi];show bcase (Y6 n.k n.t) (bcase _ _ _) _=_;rw[q1,wL q2];rfl):p:=h
theorem yQ{p:Prop}(h:p:=by unfold N7;rw[hi];show bcase (Y6 n.k n.t) (bcase _ _ _) _=_;rw[q1,wJ q2];rfl):p:=h
theorem yP{p:Prop}(h:p:=by obtain⟨h,rfl⟩:=wM.1 hzi;exact tH h):p:=h
theorem yO{p:Prop}(h:p:=by rw[oN,uL,sV]):p:=h
theorem yN{p:Prop}(h:p:=by apply ui;intro i;cases hi:vs[i]? with|none=>exact vg (by rw[r.len];simp_all)|some y=>obtain⟨y',q1,q2⟩:=r.get? hi;rw[q1,q2.eq_of_plain ((M5 _ _).1 hp _ (vT hi))]):p:=h
theorem yM{p:Prop}(h:p:=by by_cases hb:c b;exact hb;cases hm:m b with|none=>rw[V.dom b hb hm]at hc;cases hc|some x=>obtain⟨_,_,cs',ds,e1,_⟩:=V.new b x.1 x.2 hm;rw[e1]at hc;cases hc):p:=h
theorem yL{p:Prop}(h:p:=by rw[q,a0D hk (by unfold a2q;rw[hA,hB,hal];show E5 (E5 (a0s b) (a3B X.N)) (b0u a al)=_;unfold a3B b0u;rw[hz,hy];simp only[V8,X0,E9,wF])]):p:=h
theorem yK{p:Prop}(h:p:=by obtain⟨t,ht⟩:=hpre;rw[<-ht,vX,List.find?_append,om.2 (λx hx=>by simpa using hq x hx)];simp;exact Or.inl hy):p:=h
theorem yJ{p:Prop}(h:p:=by generalize hv1:Value.slice (some ad') len cap=z' at p4;generalize hv2:Value.slice (some ad) len e.size=z at p4;cases p4<;>grind):p:=h
theorem yI{p:Prop}(h:p:=by intro bs;induction bs with|nil=>rfl|cons R Rs ih=>rw[vK,wC,ih,wE];show 3+_=_;omega):p:=h
theorem yH{p:Prop}(h:p:=by simpa[uZ]using q):p:=h
theorem yG{p:Prop}(h:p:=by have:=hUc _ hi;omega):p:=h
theorem yF{p:Prop}(h:p:=by obtain⟨_,q,_⟩:=k1;cases q):p:=h
theorem yE{p:Prop}(h:p:=by rw[a5m sh n f _ h,a6r];rfl):p:=h
theorem yD{p:Prop}(h:p:=by simp only[d9 (hf i hi)]):p:=h
theorem yC{p:Prop}(h:p:=by have:=hi;grind[a3p,G8]):p:=h
theorem yB{p:Prop}(h:p:=by dsimp only at k;omega):p:=h
theorem yA{p:Prop}(h:p:=by grind[Op.operands]):p:=h
theorem xz{p:Prop}(h:p:=by rw[vP]at hi hj;omega):p:=h
theorem xy{p:Prop}(h:p:=by rw[e0];unfold a6f;rw[hz,hy];rfl):p:=h
theorem xx{p:Prop}(h:p:=by simp only[E9,wF]):p:=h
theorem xw{p:Prop}(h:p:=by have:=H.z2;have h8:=hs.2.2;have h9:=H.lb;dsimp only;omega):p:=h
theorem xu{p:Prop}(h:p:=by unfold N7;rw[hi];show bcase (Y6 n.k n.t) _ _=_;rw[q1];rfl):p:=h
theorem xq{p:Prop}(h:p:=by simp only[a0s,U8,A8,hz,E9,wF]):p:=h
theorem xm{p:Prop}(h:p:=by simp only[vB];omega):p:=h
theorem xh{p:Prop}(h:p:=by simp only[a0s,D8,hz,E9,wF]):p:=h
theorem xg{p:Prop}(h:p:=by simp only[a3a,a3H,P7,P6,a5a,a2r,T9,a8w]):p:=h
theorem xZ{p:Prop}(h:p:=by rw[a4J,IntKind.wrap_i64];unfold sgn;rw[Int.fdiv_eq_ediv_of_nonneg _ zu];simp only[vB];split<;>omega):p:=h
theorem xY{p:Prop}(h:p:=by cases e:N7 fd l q R.i with|er p e=>exact Kp.er _ _ _ _|ok k=>obtain⟨n,hi⟩:=b7H e;exact Kp.step hi rfl rfl rfl rfl):p:=h
theorem xX{p:Prop}(h:p:=by rcases hq with⟨k,e,rfl,hF⟩|⟨p,e',e,rfl,hF⟩;rw[e];exact⟨rfl,hF⟩;rw[e];exact⟨rfl,hF⟩):p:=h
theorem xW{p:Prop}(h:p:=by cases ht:X.types with|nil=>rfl|cons t l=>cases l with|nil=>rw[ht]at hb;cases hb|cons t' l=>rfl):p:=h
theorem xV{p:Prop}(h:p:=by rw[hs5 _ zy λho=>(H4.dp.oo _ ho).1 rfl];simp(disch:=try exact wQ)only[d9];exact hp4):p:=h
theorem xU{p:Prop}(h:p:=by rcases H with⟨rfl,rfl⟩|⟨a,rfl,rfl⟩|⟨a,cap,rfl,_,_,h3,_⟩;exact h0;exact h0;exact h3):p:=h
theorem xS{p:Prop}(h:p:=by by_cases hx:b2=b;exact⟨_,by rw[hx];exact hb⟩;rw[hn b2 hx];exact S.dom2 b2 g2 l2 q):p:=h
theorem xR{p:Prop}(h:p:=by rw[wC,wE,uq,wB];omega):p:=h
theorem xQ{p:Prop}(h:p:=by rw[hh,vG rfl]):p:=h
theorem xP{p:Prop}(h:p:=by rw[hh,vN hj]):p:=h
theorem xO{p:Prop}(h:p:=by unfold a6f;rw[hN,hA];rfl):p:=h
theorem xM{p:Prop}(h:p:=by rw[(hf _).e];exact hk v):p:=h
theorem xL{p:Prop}(h:p:=by rw[H.L,wF]):p:=h
theorem xK{p:Prop}(h:p:=by have:=hl.len.2;omega):p:=h
theorem xJ{p:Prop}(h:p:=by rw[tH zy];simp):p:=h
theorem xI{p:Prop}(h:p:=by rw[wE]at hst;omega):p:=h
theorem xH{p:Prop}(h:p:=by induction n<;>first|rfl|grind[a7b]):p:=h
theorem xG{p:Prop}(h:p:=by have ht:t∉E5 (a0G a) (a0G b):=ht;rw[E9,uf,not_or]at ht;exact ht):p:=h
theorem xE{p:Prop}(h:p:=by show bcase (decide (b.toNat=45)||decide (b.toNat=43)) _ _=_;rw[h45,h43,u5];rfl):p:=h
theorem xD{p:Prop}(h:p:=by rcases rq x.n with h|h;exact h;have:=Nat.mul_pos h e0;simp_all):p:=h
theorem xC{p:Prop}(h:p:=by simp only[U8,a6J,A8,uJ,hy,hz,E9,ut,wF]):p:=h
theorem wz{p:Prop}(h:p:=by show bcase (decide (b.toNat=45)||decide (b.toNat=43)) _ _=_;rw[h45,h43];rfl):p:=h
theorem wy{p:Prop}(h:p:=by have:=vw List.length he;rwa[wB,wB]at this):p:=h
theorem ww{p:Prop}(h:p:=by show k (match Nat.beq i id with|true=>.normal|false=>.exit i) fr=_;rw[h]):p:=h
theorem wu{p:Prop}(h:p:=by grind[Instr.findKey,Sem.run_bind,Z6,Result.andThen_ok,Sem.run_pure]):p:=h
theorem wo{p:Prop}(h:p:=by rcases uj i (c5+1)with k|k;exact own1 i (b4 i k hi);omega):p:=h
theorem wm{p:Prop}(h:p:=by have:=vw List.length hd;rw[uw]at this;simp_all):p:=h
theorem wh{p:Prop}(h:p:=by simp only[U8,a6J,A8,a3Z,hy,hz,E9,ut,wF]):p:=h
theorem wZ{p:Prop}(h:p:=by simp only[U8,a6J,A8,a8w,hy,hz,E9,ut,wF]):p:=h
theorem wY{p:Prop}(h:p:=by rw[wC,wE,uq];omega):p:=h
theorem wX{p:Prop}(h:p:=by obtain⟨o2,s2,hr,_⟩:=D6 (H9 h4).choose_spec.2;exact(b0L hr).1):p:=h
theorem wW{p:Prop}(h:p:=by cases x with|ok k=>exact X9.ok _|er p e=>exact X9.er (h p e rfl)):p:=h
theorem wV{p:Prop}(h:p:=by cases hb:beqBytes T []with|false=>rfl|true=>rw[hb]at hc;cases hc):p:=h
theorem wU{p:Prop}(h:p:=by simpa using r2.len):p:=h
theorem wT{p:Prop}(h:p:=by simpa using r2.at_):p:=h
theorem wR{p:Prop}(h:p:=by rw[wC];omega):p:=h
end Go
namespace Go
theorem wQ{p:Prop}(h:p:=by first|assumption|omega):p:=h
end Go
noncomputable section
namespace Go.V
def z8 {α:Type}(l:List α):Nat:=List.rec (motive:=λ_=>Nat) 0 (λ_ _ n=>n+1) l
def a0k {α:Type}(l:List α):Nat->Option α:=List.rec (motive:=λ_=>Nat->Option α) (λ_=>none) (λv _ ih i=>Nat.rec (motive:=λ_=>Option α) (some v) (λi _=>ih i) i) l
def G7 {α:Type}(l:List α):Nat->List α:=List.rec (motive:=λ_=>Nat->List α) (λ_=>[]) (λv l ih i=>Nat.rec (motive:=λ_=>List α) (v::l) (λi _=>ih i) i) l
def a0B {α:Type}(l:List α):Nat->List α:=List.rec (motive:=λ_=>Nat->List α) (λ_=>[]) (λv _ ih i=>Nat.rec (motive:=λ_=>List α) [] (λi _=>v::ih i) i) l
def E5 {α:Type}(l m:List α):List α:=List.rec (motive:=λ_=>List α) m (λv _ ih=>v::ih) l
def K4 {α β:Type}(f:α->β)(l:List α):List β:=List.rec (motive:=λ_=>List β) [] (λv _ ih=>f v::ih) l
def J7 {α:Type}(f:α->Bool)(l:List α):Bool:=List.rec (motive:=λ_=>Bool) true (λv _ ih=>Bool.rec (motive:=λ_=>Bool) false ih (f v)) l
def beqBytes (l:List UInt8):List UInt8->Bool:=List.rec (motive:=λ_=>List UInt8->Bool) (λm=>match m with|[]=>true|_::_=>false) (λv _ ih m=>match m with|[]=>false|w::m=>Bool.rec (motive:=λ_=>Bool) false (ih m) (Nat.beq v.toNat w.toNat)) l
def a7J (l:List UInt8):List UInt8->Bool:=List.rec (motive:=λ_=>List UInt8->Bool) (λm=>match m with|[]=>false|_::_=>true) (λv _ ih m=>match m with|[]=>false|w::m=>match Nat.blt v.toNat w.toNat with|true=>true|false=>match Nat.beq v.toNat w.toNat with|true=>ih m|false=>false) l
inductive Trie (α:Type) where
 | leaf
 | node (v:Option α) (l r:Trie α)
def Trie.get {α:Type}(t:Trie α):Nat->Option α:=Trie.rec (motive:=λ_=>Nat->Option α) (λ_=>none) (λv _ _ gl gr n=>match n with|0=>v|k+1=>match k%2 with|0=>gl (k/2)|_+1=>gr (k/2)) t
def Trie.putK {α β:Type}(o:Option α)(f:Nat):Trie α->Nat->(Trie α->β)->β:=Nat.rec (motive:=λ_=>Trie α->Nat->(Trie α->β)->β) (λt _ q=>q t) (λ_ ih t n q=>match n with
 |0=>match t with|.leaf=>q (.node o .leaf .leaf)|.node _ l r=>q (.node o l r)
 |k+1=>match t with
  |.leaf=>match k%2 with|0=>ih .leaf (k/2) λt=>q (.node none t .leaf)|_+1=>ih .leaf (k/2) λt=>q (.node none .leaf t)
  |.node v l r=>match k%2 with|0=>ih l (k/2) λt=>q (.node v t r)|_+1=>ih r (k/2) λt=>q (.node v l t)) f
def a8M {α:Type}(n:Nat)(k:Nat->α):α:=match n with|0=>k 0|m+1=>k (m+1)
def d3I {α:Type}(n:Int)(k:Int->α):α:=match n with|.ofNat m=>a8M m λm=>k (.ofNat m)|.negSucc m=>a8M m λm=>k (.negSucc m)
def fList {β α:Type}(l:List β):(List β->α)->α:=List.rec (motive:=λ_=>(List β->α)->α) (λk=>k []) (λx _ ih k=>ih λl=>k (x::l)) l
def c6D {α:Type}(g:Option Nat)(k:Option Nat->α):α:=match g with|none=>k none|some g=>a8M g λg=>k (some g)
def b9V {α:Type}(a:Option Addr)(k:Option Addr->α):α:=match a with|none=>k none|some a=>a8M a.block λb=>a8M a.off λoff=>c6D a.spot λg=>k (some ⟨b,off,g⟩)
def a8s {α:Type}(v:Value)(k:Value->α):α:=match v with
 |.int kd n=>d3I n λn=>k (.int kd n)|.bool b=>match b with|true=>k (.bool true)|false=>k (.bool false)
 |.string s=>k (.string s)|.pointer a=>b9V a λa=>k (.pointer a)|.slice a n c=>b9V a λa=>a8M n λn=>a8M c λc=>k (.slice a n c)|.agg cs=>fList cs.toList λl=>k (.agg ⟨l⟩)|.tuple cs=>fList cs.toList λl=>k (.tuple ⟨l⟩)|v=>k v
inductive VObj where
 | cells (cs:List (Value×Nat)) (cur:Nat) (ro:Bool)
 | map (es:List (Value×Value))
 | siter (s:ByteArray) (pos:Nat)
structure S where
 c:Nat
 h:Trie VObj
 r:List Nat
 w:List Nat
def M (α:Type):Type:=S->Option (α×S)
def M.pure {α:Type}(a:α):M α:=λs=>some (a,s)
def M.bind {α β:Type}(m:M α)(f:α->M β):M β:=λs=>match m s with|none=>none|some x=>f x.1 x.2
def M.fail {α:Type}:M α:=λ_=>none
def M.lift {α:Type}(o:Option α):M α:=λs=>match o with|none=>none|some a=>some (a,s)
def M.obind {α β:Type}(o:Option α)(f:α->M β):M β:=match o with|none=>M.fail|some a=>f a
def M.guard {α:Type}(b:Bool)(m:M α):M α:=match b with|true=>m|false=>M.fail
def rd (i:Nat):M VObj:=λs=>match Nat.blt i s.c with
 |true=>match s.h.get i with|some o=>some (o,⟨s.c,s.h,i::s.r,s.w⟩)|none=>none
 |false=>none
def wr (i:Nat)(o:VObj):M Unit:=λs=>match Nat.blt i s.c with
 |true=>match s.h.get i with|some _=>Trie.putK (some o) (i+1) s.h i λh=>some ((),⟨s.c,h,s.r,i::s.w⟩)|none=>none
 |false=>none
def new (o:VObj):M Nat:=λs=>Trie.putK (some o) (s.c+1) s.h s.c λh=>a8M (s.c+1) λc=>some (s.c,⟨c,h,s.r,s.c::s.w⟩)
structure TI where
 und:TypeDesc
 size:Nat
 bytes:Nat
 zero:Value
structure Tab where
 types:Trie TI
 funcs:Trie Func
 ng:Nat
def a0E {α:Type}(p:Program)(s:Sem α):Option α:=Sem.rec (motive:=λ_=>Option α) (λa=>some a) (λ_ _ _ _=>none) (λ_ _ _ _ _=>none) (λ_ _ _=>none) (λ_ _ _=>none) (λ_ _ _ _=>none) (λ_ _ _=>none) (λ_ _ _=>none) (λ_ _ _ _=>none) (λ_ _ _=>none) (λ_ _ _=>none) (λ_ ih=>ih p) (λ_ _ ih=>ih) (λ_=>none) s
def plain:Value->Bool|.bool _=>true|.int ..=>true|.float ..=>true|.complex ..=>true|.string _=>true|.pointer a=>a.isNone|.slice a n c=>a.isNone&&Nat.beq n 0&&Nat.beq c 0|.map r=>r.isNone|.nilFunc=>true|.nilIface=>true|_=>false
def K5 (n:Nat):Value->Bool:=Nat.rec (motive:=λ_=>Value->Bool) (λ_=>false) (λ_ ih v=>match v with|.agg cs=>J7 ih cs.toList|.tuple cs=>J7 ih cs.toList|.iface _ v=>ih v|v=>plain v) n
def D5 (l:List Value):Nat->Value:=List.rec (motive:=λ_=>Nat->Value) (λ_=>undef) (λv _ ih i=>Nat.rec (motive:=λ_=>Value) v (λi _=>ih i) i) l
def a4W (l:List Value):Nat->Value->List Value:=List.rec (motive:=λ_=>Nat->Value->List Value) (λ_ _=>[]) (λv l ih i x=>Nat.rec (motive:=λ_=>List Value) (x::l) (λi _=>v::ih i x) i) l
def X5 (T:Tab)(fr:List Value):Operand->Option Value
 |.tmp t=>some (D5 fr t)|.const v=>match K5 3 v with|true=>some v|false=>none
 |.global g=>match Nat.blt g T.ng with|true=>some (.pointer (some ⟨g,0,some 0⟩))|false=>none
 |.func f=>some (.func (.func f) #[] #[])
def a0R (T:Tab)(fr:List Value)(os:List Operand):Option (List Value):=List.rec (motive:=λ_=>Option (List Value)) (some []) (λo _ ih=>match X5 T fr o with|none=>none|some v=>match ih with|none=>none|some vs=>some (v::vs)) os
def ev (T:Tab)(fr:List Value)(x:Operand)(k:Value->M Value):M Value:=M.obind (X5 T fr x) k
def evs (T:Tab)(fr:List Value)(x:List Operand)(k:List Value->M Value):M Value:=M.obind (a0R T fr x) k
def q9 (g:Nat)(cs:List (Value×Nat)):Nat->Option (List Value):=List.rec (motive:=λ_=>Nat->Option (List Value)) (λn=>match n with|0=>some []|_+1=>none) (λc _ ih n=>match n with
 |0=>some []|n+1=>match Nat.ble c.2 g with
  |true=>match ih n with|some vs=>some (c.1::vs)|none=>none
  |false=>none) cs
def a3k (g:Nat)(vs:List Value):List (Value×Nat)->List (Value×Nat):=List.rec (motive:=λ_=>List (Value×Nat)->List (Value×Nat)) (λcs=>cs) (λv _ ih cs=>match cs with|[]=>(v,g)::ih []|_::cs=>(v,g)::ih cs) vs
def a2h (g:Nat)(vs:List Value)(cs:List (Value×Nat)):Nat->Option (List (Value×Nat)):=List.rec (motive:=λ_=>Nat->Option (List (Value×Nat))) (λn=>match n with|0=>some (a3k g vs [])|_+1=>none) (λc cs ih n=>match n with|0=>some (a3k g vs (c::cs))|n+1=>match ih n with|some cs'=>some (c::cs')|none=>none) cs
def N8:Value->Bool|.agg _=>false|.tuple _=>false|_=>true
def a7M {α:Type}(o:VObj)(k:List (Value×Nat)->Nat->Bool->M α):M α:=match o with|.cells cs cur ro=>k cs cur ro|_=>M.fail
def loadN (a:Addr)(n:Nat):M (List Value):=M.obind a.spot λg=>M.bind (rd a.block) λo=>a7M o λcs _ _=>M.lift (q9 g (G7 cs a.off) n)
def storeN (a:Addr)(vs:List Value):M Unit:=M.obind a.spot λg=>M.bind (rd a.block) λo=>a7M o λcs cur ro=>M.guard (Nat.beq g cur&& !ro&&J7 N8 vs&&Nat.ble (a.off+z8 vs) (z8 cs))<|M.obind (a2h g vs cs a.off) λcs'=>fList cs' λcs'=>wr a.block (.cells cs' cur ro)
def Y9 (vs:List Value):M Addr:=M.guard (J7 N8 vs)<|fList (K4 (λv=>(v,0)) vs) λcs=>M.bind (new (.cells cs 0 false)) λb=>M.pure ⟨b,0,some 0⟩
def fwd (a:Addr)(n:Nat):Addr:=⟨a.block,a.off+n,a.spot⟩
def a8f:Value->Option Nat
 |.int _ n=>match n with|.ofNat m=>some m|.negSucc _=>none
 |_=>none
def a3n (d:Nat):Option Value->Option Nat|none=>some d|some v=>a8f v
def a0C {α:Type}(v:Value)(k:Addr->M α):M α:=match v with|.pointer a=>M.obind a k|_=>M.fail
def b0m:TypeDesc->Bool|.struct _=>true|.array _ _=>true|_=>false
def a3D:IntKind->Nat|.i8=>128|.i16=>32768|.i32=>2147483648|.i64=>9223372036854775808|.u8=>256|.u16=>65536|.u32=>4294967296|.u64=>18446744073709551616
def Q0 (k:IntKind)(n:Int):Int:=match n with
 |.ofNat m=>match Nat.blt m (a3D k)with|true=>.ofNat m|false=>k.wrap (.ofNat m)
 |.negSucc m=>match k.signed&&Nat.blt m (a3D k)with|true=>.negSucc m|false=>k.wrap (.negSucc m)
section
variable (p:Program)(T:Tab)
def ti {α:Type}(t:TypeId)(k:TI->M α):M α:=M.obind (T.types.get t) k
def a4R (t:TypeId)(a:Addr):M Value:=ti T t λi=>match b0m i.und with|true=>M.guard (!(Nat.beq i.size 0))<|M.bind (loadN a i.size) λvs=>M.pure (.agg ⟨vs⟩)|false=>M.bind (loadN a 1) λvs=>M.pure (D5 vs 0)
def b7J (t:TypeId)(a:Addr)(v:Value):M Unit:=ti T t λi=>M.guard (!(Nat.beq i.size 0)&&Nat.beq (z8 v.cells.toList) i.size)<|storeN a v.cells.toList
def a4i:Nat:=4294967296
def elemAt (a:Addr)(i len elem:Nat):M Value:=ti T elem λe=>M.guard (Nat.blt i len&& !(Nat.beq e.size 0))<|M.pure (.pointer (some (fwd a (i*e.size))))
def a9W (t:TypeId)(x ix:Value):M Value:=ti T t λd=>M.obind (a8f ix) λi=>match d.und with
 |.array len elem=>a0C x λa=>elemAt T a i len elem|.slice elem=>match x with|.slice a len es=>M.obind a λa=>ti T elem λe=>M.guard (Nat.beq es e.size)<|elemAt T a i len elem|_=>M.fail
 |_=>M.fail
def b2t (t:TypeId)(x:Value)(f:Nat):M Value:=ti T t λd=>match d.und with|.struct fields=>a0C x λa=>M.obind (a0k fields.toList f) λfd=>ti T fd.type λn=>M.guard (!(Nat.beq n.size 0))<|M.pure (.pointer (some (fwd a fd.offset)))|_=>M.fail
def cut (a:Addr)(len elem:Nat)(lo hi:Option Value):M Value:=ti T elem λe=>M.obind (a3n 0 lo) λl=>M.obind (a3n len hi) λh=>M.guard (Nat.ble l h&&Nat.ble h len&& !(Nat.beq e.size 0))<|M.pure (.slice (some (fwd a (l*e.size))) (h-l) e.size)
def a7Y (s:ByteArray)(lo hi:Option Value):M Value:=M.obind (a3n 0 lo) λl=>M.obind (a3n (z8 s.data.toList) hi) λh=>M.guard (Nat.ble l h&&Nat.ble h (z8 s.data.toList))<|fList (a0B (G7 s.data.toList l) (h-l)) λb=>M.pure (.string ⟨⟨b⟩⟩)
def cutNil (lo hi:Option Value):M Value:=M.obind (a3n 0 lo) λl=>M.obind (a3n 0 hi) λh=>M.guard (Nat.beq l 0&&Nat.beq h 0)<|M.pure (.slice none 0 0)
def b3X (t:TypeId)(x:Value)(lo hi mx:Option Value):M Value:=ti T t λd=>M.guard mx.isNone<|match d.und with
 |.string=>match x with|.string s=>a7Y s lo hi|_=>M.fail
 |.slice elem=>match x with
  |.slice a len es=>ti T elem λe=>match a with|some a=>M.guard (Nat.beq es e.size)<|cut T a len elem lo hi|none=>M.guard (Nat.beq len 0)<|cutNil lo hi
  |_=>M.fail
 |.array len elem=>a0C x λa=>ti T elem λe=>M.bind (loadN a (len*e.size)) λ_=>cut T a len elem lo hi|_=>M.fail
def a5P (zs:List Value)(n:Nat):List Value:=Nat.rec (motive:=λ_=>List Value) [] (λ_ ih=>E5 zs ih) n
def b2f (t:TypeId)(len cap:Value):M Value:=ti T t λd=>match d.und with|.slice elem=>ti T elem λe=>M.obind (a8f len) λl=>M.obind (a8f cap) λc=>M.guard (Nat.ble l c&&Nat.blt c a4i&&Nat.blt e.bytes 4096&&Nat.beq (z8 e.zero.cells.toList) e.size&& !(Nat.beq e.size 0)&&K5 8 e.zero)<|M.bind (Y9 (a5P e.zero.cells.toList l)) λa=>M.pure (.slice (some a) l e.size)|_=>M.fail
def pureV (o:Option Value):M Value:=M.obind o λv=>M.guard (K5 3 v)<|M.pure v
def a7l (b:UInt8):Value:=.int .u8 b.toNat
def b8B:Value->Option UInt8|.int .u8 n=>some (UInt8.ofNat n.toNat)|_=>none
def b4k (vs:List Value):Option (List UInt8):=List.rec (motive:=λ_=>Option (List UInt8)) (some []) (λv _ ih=>match b8B v with|none=>none|some b=>match ih with|some bs=>some (b::bs)|none=>none) vs
def a9p (size:Nat)(x:Value):M (List Value):=match x with
 |.slice a len es=>match a with|none=>M.guard (Nat.beq len 0)<|M.pure []|some a=>match len with|0=>M.pure []|len+1=>M.guard (Nat.beq es size)<|loadN a ((len+1)*size)
 |.string s=>M.guard (Nat.beq size 1)<|M.pure (K4 a7l s.data.toList)|_=>M.fail
def b5m:Value->Bool|.slice ..=>true|_=>false
def b3Y:TypeDesc->Bool|.int _=>true|_=>false
def appendAt (e:TI)(a:Addr)(len:Nat)(vs:List Value)(m:Nat):M Value:=M.obind a.spot λg=>M.bind (rd a.block) λo=>a7M o λcs cur ro=>M.guard (!ro)<|M.guard (Nat.ble (a.off+len*e.size) (z8 cs))<|M.obind (q9 g (G7 cs a.off) (len*e.size)) λ_=>fList (E5 (a0B cs (a.off+len*e.size)) (K4 (λv=>(v,cur+1)) vs)) λcs'=>M.bind (wr a.block (.cells cs' (cur+1) ro)) λ_=>M.pure (.slice (some ⟨a.block,a.off,some (cur+1)⟩) (len+m) e.size)
def a1P (e:TI)(s:Value)(vs:List Value):M Value:=match vs with
 |[]=>M.guard (b5m s)<|M.pure s|v::vs=>match s with
  |.slice base len es=>a8M ((z8 vs+1)/e.size) λm=>M.guard (Nat.beq (m*e.size) (z8 vs+1)&&J7 N8 (v::vs)&&Nat.blt ((len+m)*4) a4i&&Nat.blt e.bytes 4096)<|match base with|none=>M.guard (Nat.beq len 0)<|M.bind (Y9 (v::vs)) λa=>M.pure (.slice (some a) m e.size)|some a=>M.guard (Nat.beq es e.size)<|appendAt e a len (v::vs) m
  |_=>M.fail
def appendV (argTypes:Array TypeId)(args:List Value):M Value:=M.obind (a0k argTypes.toList 0) λst=>M.obind (a0k argTypes.toList 1) λxt=>ti T st λd=>ti T xt λdx=>match d.und with|.slice elem=>M.obind (a0k args 0) λs=>M.obind (a0k args 1) λx=>ti T elem λe=>M.guard (!b3Y dx.und&& !(Nat.beq e.size 0))<|M.bind (a9p e.size x) λvs=>fList vs λvs=>a1P e s vs|_=>M.fail
def a1v:Value->Value->Option Bool
 |.int a x,.int b y=>match decide (a=b)with|true=>some (decide (x=y))|false=>none
 |.string x,.string y=>some (beqBytes x.data.toList y.data.toList)|.bool x,.bool y=>some (x==y)|_,_=>none
def Z0 (k:Value)(es:List (Value×Value)):Option (Option Value):=List.rec (motive:=λ_=>Option (Option Value)) (some none) (λe _ ih=>match a1v k e.1 with|none=>none|some true=>some (some e.2)|some false=>ih) es
def a1Z (k v:Value)(es:List (Value×Value)):List (Value×Value):=List.rec (motive:=λ_=>List (Value×Value)) [(k,v)] (λe es ih=>match a1v k e.1 with|some true=>(k,v)::es|_=>e::ih) es
def a8R:TypeDesc->Value->Bool|.int k,.int k' _=>decide (k=k')|.string,.string _=>true|.bool,.bool _=>true|_,_=>false
def c7d {α:Type}(o:VObj)(k:List (Value×Value)->M α):M α:=match o with|.map es=>k es|_=>M.fail
def a6F (r:Nat):M (List (Value×Value)):=M.bind (rd r) λo=>c7d o M.pure
def b4Q (x:Value):M (List (Value×Value)):=match x with
 |.map r=>match r with|none=>M.pure []|some r=>a6F r
 |_=>M.fail
def b1F (commaOk:Bool)(v:Value)(b:Bool):Value:=match commaOk with|true=>.tuple #[v,.bool b]|false=>v
def b1L (t:TypeId)(x ix:Value)(commaOk:Bool):M Value:=ti T t λd=>match d.und with
 |.map key elem=>ti T key λkd=>ti T elem λed=>M.guard (a8R kd.und ix)<|M.bind (b4Q x) λes=>M.obind (Z0 ix es) λo=>match o with|some v=>M.pure (b1F commaOk v true)|none=>M.guard (K5 8 ed.zero)<|M.pure (b1F commaOk ed.zero false)
 |_=>M.fail
def a6N (t:TypeId)(m k v:Value):M Unit:=ti T t λd=>match d.und with
 |.map key _=>match m with|.map r=>M.obind r λr=>ti T key λkd=>M.guard (a8R kd.und k)<|M.bind (a6F r) λes=>M.obind (Z0 k es) λ_=>fList (a1Z k v es) λes'=>wr r (.map es')|_=>M.fail
 |_=>M.fail
def d2O (d:TypeDesc)(x:Value):M Value:=match d with
 |.array n _=>M.pure (goInt n)|.string=>match x with|.string s=>M.pure (goInt (z8 s.data.toList))|_=>M.fail
 |.slice _=>match x with|.slice _ n _=>M.pure (goInt n)|_=>M.fail
 |.map _ _=>M.bind (b4Q x) λes=>M.pure (goInt (z8 es))|_=>M.fail
def c4N:TypeDesc->Bool|.int .u8=>true|_=>false
def c4V (e:TypeId)(b:ByteArray):M Value:=ti T e λi=>M.guard (c4N i.und&&Nat.blt (z8 b.data.toList) a4i)<|M.bind (Y9 (K4 a7l b.data.toList)) λa=>M.pure (.slice (some a) (z8 b.data.toList) 1)
def convBytes (e:TypeId)(x:Value):M Value:=ti T e λi=>M.guard (c4N i.und)<|M.bind (a9p 1 x) λvs=>M.obind (b4k vs) λbs=>M.pure (.string ⟨⟨bs⟩⟩)
def b2S (src dst:TypeId)(x:Value):M Value:=ti T src λs=>ti T dst λd=>match d.und with
 |.int k=>match x with|.int _ n=>M.pure (.int k (Q0 k n))|_=>M.fail
 |.slice e=>match x with|.string b=>c4V T e b|_=>M.fail
 |.string=>match x with|.string b=>M.pure (.string b)|.int _ n=>M.pure (.string (Utf8.encode n))|_=>match s.und with|.slice e=>M.guard (b5m x)<|convBytes T e x|_=>M.fail
 |_=>M.fail
def b0p (fr:List Value)(c a b:Operand):M Value:=ev T fr c λvc=>ev T fr a λva=>ev T fr b λvb=>match vc with
 |.bool t=>match t with|true=>M.pure va|false=>M.pure vb
 |_=>M.fail
def a2W {α:Type}:List α->Bool|[]=>true|_::_=>false
def b4L (t:TypeId):M Value:=ti T t λi=>M.guard (K5 8 i.zero&& !(a2W i.zero.cells.toList))<|M.bind (Y9 i.zero.cells.toList) λa=>M.pure (.pointer (some a))
def b2w (fr:List Value)(x:Operand):M Value:=ev T fr x λv=>M.guard (!(a2W v.cells.toList))<|M.bind (Y9 v.cells.toList) λa=>M.pure (.pointer (some a))
def a6t (vs:List Value):List Value->List Value:=List.rec (motive:=λ_=>List Value->List Value) (λcs=>cs) (λv _ ih cs=>match cs with|[]=>[]|_::cs=>v::ih cs) vs
def a3h (vs cs:List Value):Nat->List Value:=List.rec (motive:=λ_=>Nat->List Value) (λ_=>[]) (λc cs ih n=>match n with|0=>a6t vs (c::cs)|n+1=>c::ih n) cs
def a8c (place:Nat->Option (Nat×Nat))(qs:List (Nat×Operand)):List Value->List Value->Option (List Value):=List.rec (motive:=λ_=>List Value->List Value->Option (List Value)) (λ_ cs=>some cs) (λq _ ih vs cs=>match vs with|[]=>none|v::vs=>match place q.1 with|none=>none|some os=>match Nat.beq (z8 v.cells.toList) os.2&&Nat.ble (os.1+os.2) (z8 cs)with|true=>ih vs (a3h v.cells.toList cs os.1)|false=>none) qs
def a5F (fields:List Field)(j:Nat):Option (Nat×Nat):=match a0k fields j with|none=>none|some f=>match T.types.get f.type with|none=>none|some i=>some (f.offset,i.size)
def a2e (size j:Nat):Option (Nat×Nat):=some (j*size,size)
def b9M (f:Field):Bool:=(T.types.get f.type).isSome
def a8W (fr:List Value)(t:TypeId)(ps:Array (Nat×Operand)):M Value:=evs T fr (K4 (·.2) ps.toList) λvs=>ti T t λi=>M.guard (K5 8 i.zero)<|match i.und with|.struct fields=>M.guard (J7 (b9M T) fields.toList)<|M.obind (a8c (a5F T fields.toList) ps.toList vs i.zero.cells.toList) λcs=>M.pure (.agg ⟨cs⟩)|.array _ elem=>ti T elem λe=>M.obind (a8c (a2e e.size) ps.toList vs i.zero.cells.toList) λcs=>M.pure (.agg ⟨cs⟩)|_=>M.fail
def a3R (fr:List Value)(t:TypeId)(len:Nat)(ps:Array (Nat×Operand)):M Value:=evs T fr (K4 (·.2) ps.toList) λvs=>ti T t λd=>match d.und with|.slice elem=>ti T elem λe=>M.guard (Nat.beq (z8 e.zero.cells.toList) e.size&& !(Nat.beq e.size 0)&&K5 8 e.zero&&Nat.ble (len*e.size) 16777216)<|M.obind (a8c (a2e e.size) ps.toList vs (a5P e.zero.cells.toList len)) λcs=>M.bind (Y9 cs) λa=>M.pure (.slice (some a) len e.size)|_=>M.fail
def a7Z (fr:List Value)(t:TypeId)(x:Operand):M Value:=ev T fr x λv=>a0C v λa=>a4R T t a
def a8T (fr:List Value)(t:TypeId)(x y:Operand):M Value:=ev T fr x λva=>ev T fr y λv=>a0C va λa=>M.bind (b7J T t a v) λ_=>M.pure undef
def c1R:Fn->Bool|.func _=>true|_=>false
def a5q (fr:List Value)(x:Operand):M Value:=ev T fr x λv=>match v with|.pointer a=>M.guard a.isSome<|M.pure (.pointer a)|.func fn a b=>M.guard (c1R fn)<|M.pure (.func fn a b)|_=>M.fail
def b4R (op:BinOp)(k:IntKind)(a b:Int):Option Value:=match op with|.add=>some (.int k (Q0 k (a+b)))|.sub=>some (.int k (Q0 k (a-b)))|.mul=>some (.int k (Q0 k (a*b)))|.eql=>some (.bool (decide (a=b)))|.neq=>some (.bool (!(decide (a=b))))|.lss=>some (.bool (decide (a<b)))|.leq=>some (.bool (decide (a<=b)))|.gtr=>some (.bool (decide (b<a)))|.geq=>some (.bool (decide (b<=a)))|_=>none
def a0A:IntKind->IntKind->Bool|.i8,.i8=>true|.i16,.i16=>true|.i32,.i32=>true|.i64,.i64=>true|.u8,.u8=>true|.u16,.u16=>true|.u32,.u32=>true|.u64,.u64=>true|_,_=>false
def b0W (k:IntKind)(m:Nat):Nat:=match Nat.ble m k.bits with|true=>m|false=>k.bits
def c0f (op:BinOp)(k:IntKind)(n m:Nat):Option Value:=match op with
 |.quo=>match m with|0=>none|m+1=>some (.int k (Q0 k (.ofNat (Nat.div n (Nat.succ m)))))
 |.rem=>match m with|0=>none|m+1=>some (.int k (.ofNat (Nat.mod n (Nat.succ m))))
 |.and=>some (.int k (Q0 k (.ofNat (Nat.land (Nat.mod n (Nat.pow 2 k.bits)) (Nat.mod m (Nat.pow 2 k.bits))))))|.or=>some (.int k (Q0 k (.ofNat (Nat.lor (Nat.mod n (Nat.pow 2 k.bits)) (Nat.mod m (Nat.pow 2 k.bits))))))|.xor=>some (.int k (Q0 k (.ofNat (Nat.xor (Nat.mod n (Nat.pow 2 k.bits)) (Nat.mod m (Nat.pow 2 k.bits))))))|_=>none
def a5v (op:BinOp)(k:IntKind)(n m:Nat):Option Value:=match op with|.shl=>some (.int k (Q0 k (.ofNat (Nat.mul n (Nat.pow 2 (b0W k m))))))|.shr=>some (.int k (.ofNat (Nat.div n (Nat.pow 2 (b0W k m)))))|_=>none
def a6o (f:Nat->Nat->Option Value)(a b:Int):Option Value:=match a with
 |.ofNat n=>match b with|.ofNat m=>f n m|.negSucc _=>none
 |.negSucc _=>none
def a3w (op:BinOp)(k k':IntKind)(a b:Int):Option Value:=match a6o (a5v op k) a b with
 |some v=>some v|none=>match a0A k k' with
  |true=>match b4R op k a b with|some v=>some v|none=>a6o (c0f op k) a b
  |false=>none
def b4e (op:BinOp)(x y:List UInt8):Option Value:=match op with
 |.add=>match Nat.blt (z8 x+z8 y) a4i with|true=>fList (E5 x y) λl=>some (.string ⟨⟨l⟩⟩)|false=>none
 |.eql=>some (.bool (beqBytes x y))|.neq=>some (.bool (!(beqBytes x y)))|.lss=>some (.bool (a7J x y))|.leq=>some (.bool (a7J x y||beqBytes x y))|.gtr=>some (.bool (!(a7J x y||beqBytes x y)))|.geq=>some (.bool (!(a7J x y)))|_=>none
def d3A:BinOp->Bool|.eql=>true|.neq=>true|_=>false
def a4m (d:TypeDesc)(a:Value):Option Bool:=match d with
 |.pointer _=>match a with|.pointer o=>some o.isNone|_=>none
 |.slice _=>match a with|.slice o _ _=>some o.isNone|_=>none
 |.map _ _=>match a with|.map o=>some o.isNone|_=>none
 |.func _ _ _=>match a with|.nilFunc=>some true|.func _ _ _=>some false|_=>none
 |.interface _=>match a with|.nilIface=>some true|.iface _ _=>some false|_=>none
 |_=>none
def isConstO:Operand->Bool|.const _=>true|_=>false
def b1O (T:Tab)(op:BinOp)(t:TypeId)(x y:Operand)(a b:Value):Option Bool:=match d3A op&&(isConstO x||isConstO y)with
 |true=>match T.types.get t with
  |some d=>match a4m d.und a with
   |some p=>match a4m d.und b with
    |some q=>match p||q with|true=>some (p&&q)|false=>none
    |none=>none
   |none=>none
  |none=>none
 |false=>none
def b5y (op:BinOp)(r:Bool):Bool:=match op with|.neq=>!r|_=>r
def a9H (op:BinOp)(t:TypeId)(x y:Operand)(a b:Value):M Value:=match b1O T op t x y a b with|some r=>M.pure (.bool (b5y op r))|none=>M.guard (K5 8 a&&K5 8 b)<|pureV (a0E p (do eqGuard op t x y a b;binOp op t a b))
def b2n (fr:List Value)(op:BinOp)(t:TypeId)(x y:Operand):M Value:=ev T fr x λa=>ev T fr y λb=>match a with
 |.int k n=>match b with
  |.int k' m=>match a3w op k k' n m with|some v=>M.pure v|none=>a9H p T op t x y a b
  |_=>M.fail
 |.string s=>match b with|.string s'=>M.lift (b4e op s.data.toList s'.data.toList)|_=>M.fail
 |_=>a9H p T op t x y a b
def b5O (fr:List Value)(op:UnOp)(x:Operand):M Value:=ev T fr x λa=>M.guard (plain a)<|pureV (a0E p (Op.unary op a))
def a4t (fr:List Value)(s d:TypeId)(x:Operand):M Value:=ev T fr x λa=>b2S T s d a
def c1p:TypeDesc->Bool|.interface _=>true|_=>false
def a8Y (fr:List Value)(t:TypeId)(x:Operand):M Value:=ev T fr x λa=>ti T t λi=>M.guard (!(c1p i.und))<|M.pure (.iface t a)
def b0E (fr:List Value)(fn:Fn)(a b:Array Operand):M Value:=evs T fr a.toList λva=>evs T fr b.toList λvb=>M.pure (.func fn ⟨va⟩ ⟨vb⟩)
def c3a:TypeDesc->Bool|.map _ _=>true|_=>false
def b6O:Value->Bool|.int ..=>true|_=>false
def b2E (fr:List Value)(t:TypeId)(r:Option Operand):M Value:=match r with|none=>M.bind (new (.map [])) λb=>M.pure (.map (some b))|some x=>ev T fr x λv=>ti T t λd=>M.guard (c3a d.und&&b6O v)<|M.bind (new (.map [])) λb=>M.pure (.map (some b))
def b0n (fr:List Value)(t:TypeId)(l c:Operand):M Value:=ev T fr l λvl=>ev T fr c λvc=>b2f T t vl vc
def a8G (fr:List Value)(t:TypeId)(x:Operand)(lo hi mx:Option Operand):M Value:=evs T fr lo.toList λvlo=>evs T fr hi.toList λvhi=>evs T fr mx.toList λvmx=>ev T fr x λa=>b3X T t a (a0k vlo 0) (a0k vhi 0) (a0k vmx 0)
def a4H (fr:List Value)(t:TypeId)(x:Operand)(f:Nat):M Value:=ev T fr x λa=>b2t T t a f
def partV (t:TypeId)(cs:List Value)(off:Nat):M Value:=ti T t λi=>match b0m i.und with|true=>M.pure (.agg ⟨a0B (G7 cs off) i.size⟩)|false=>M.obind (a0k cs off) M.pure
def a6D (fr:List Value)(t:TypeId)(x:Operand)(f:Nat):M Value:=ev T fr x λa=>ti T t λi=>match i.und with
 |.struct fields=>match a with|.agg cs=>M.obind (a0k fields.toList f) λfd=>partV T fd.type cs.toList fd.offset|_=>M.fail
 |_=>M.fail
def a3c (fr:List Value)(t:TypeId)(x i:Operand):M Value:=ev T fr x λa=>ev T fr i λb=>a9W T t a b
def a8N (fr:List Value)(t:TypeId)(x i:Operand):M Value:=ev T fr x λa=>ev T fr i λb=>M.obind (a8f b) λj=>ti T t λd=>match d.und with
 |.string=>match a with|.string s=>M.obind (a0k s.data.toList j) λb=>M.pure (a7l b)|_=>M.fail
 |.array len elem=>match a with|.agg cs=>ti T elem λe=>M.guard (Nat.blt j len)<|partV T elem cs.toList (j*e.size)|_=>M.fail
 |_=>M.fail
def a7w (fr:List Value)(t:TypeId)(x i:Operand)(ok:Bool):M Value:=ev T fr x λa=>ev T fr i λb=>b1L T t a b ok
def a4a (fr:List Value)(t:TypeId)(m k x:Operand):M Value:=ev T fr m λa=>ev T fr k λb=>ev T fr x λv=>M.bind (a6N T t a b v) λ_=>M.pure undef
def a8B (fr:List Value)(t:TypeId)(x:Operand):M Value:=ev T fr x λv=>ti T t λd=>match d.und with
 |.string=>match v with|.string s=>M.bind (new (.siter s 0)) λb=>M.pure (.pointer (some ⟨b,0,some 0⟩))|_=>M.fail
 |_=>M.fail
def b3k (b:Nat)(s:ByteArray)(pos:Nat):M Value:=match Nat.blt pos (z8 s.data.toList)with|true=>a8M (pos+(Utf8.decode s pos).2) λpos'=>M.bind (wr b (.siter s pos')) λ_=>M.pure (.tuple #[.bool true,goInt pos,.int .i32 (Utf8.decode s pos).1])|false=>M.pure (.tuple #[.bool false])
def c9c:Option Nat->Bool|some g=>Nat.beq g 0|none=>false
def b0l (fr:List Value)(x:Operand)(str:Bool):M Value:=M.guard str<|ev T fr x λv=>a0C v λa=>M.guard (Nat.beq a.off 0&&c9c a.spot)<|M.bind (rd a.block) λo=>match o with|.siter s pos=>b3k a.block s pos|_=>M.fail
def a6m (fr:List Value)(x:Operand)(i:Nat):M Value:=ev T fr x λa=>match a with|.tuple vs=>M.obind (a0k vs.toList i) M.pure|_=>M.fail
def a0J (fr:List Value)(b:Builtin)(args:Array Operand)(argTypes:Array TypeId):M Value:=evs T fr args.toList λvs=>match b with|.append=>M.guard (Nat.beq (z8 vs) 2)<|appendV T argTypes vs|.len=>M.obind (a0k argTypes.toList 0) λt=>ti T t λd=>M.obind (a0k vs 0) λx=>d2O d.und x|.max=>M.guard (J7 plain vs)<|pureV (a0E p (Builtin.max_ argTypes 0 ⟨vs⟩))|.min=>M.guard (J7 plain vs)<|pureV (a0E p (Builtin.min_ argTypes 0 ⟨vs⟩))|_=>M.fail
def O4 (fr:List Value)(o:Op):M Value:=match o with|.move x=>M.lift (X5 T fr x)|.assign x=>M.lift (X5 T fr x)|.pick c a b=>b0p T fr c a b|.alloc t=>b4L T t|.box _ x=>b2w T fr x|.build t ps=>a8W T fr t ps|.buildSlice t len ps=>a3R T fr t len ps|.load t x=>a7Z T fr t x|.store t x y=>a8T T fr t x y|.nilCheck x=>a5q T fr x|.binOp op t x y _=>b2n p T fr op t x y|.unOp op _ x=>b5O p T fr op x|.convert s d x=>a4t T fr s d x|.makeInterface t x=>a8Y T fr t x|.makeFunc fn a b=>b0E T fr fn a b|.makeMap t r=>b2E T fr t r|.makeSlice t l c=>b0n T fr t l c|.slice t x lo hi mx=>a8G T fr t x lo hi mx|.fieldAddr t x f=>a4H T fr t x f|.field t x f=>a6D T fr t x f|.indexAddr t x i=>a3c T fr t x i|.index t x i=>a8N T fr t x i|.lookup t x i ok=>a7w T fr t x i ok|.mapUpdate t m k x=>a4a T fr t m k x|.insert t m k x=>a4a T fr t m k x|.range t x=>a8B T fr t x|.next x str=>b0l T fr x str|.extract x i=>a6m T fr x i|_=>M.fail
def a5i (fr:List Value)(f:Operand)(args:List Operand)(k:Nat->List Value->M Value):M Value:=ev T fr f λv=>evs T fr args λvs=>match v with
 |.func fn first captured=>match fn with|.func g=>k g (E5 first.toList (E5 vs captured.toList))|_=>M.fail
 |_=>M.fail
def b1p (call:Nat->List Value->M Value)(fr:List Value)(c:Call):M Value:=match c.callee with|.value f=>a5i T fr f c.args.toList call|.builtin b=>a0J p T fr b c.args c.argTypes|_=>M.fail
def b1v:Op->Option Call|.call c=>some c|_=>none
def Z4 (call:Nat->List Value->M Value)(fr:List Value)(o:Op):M Value:=match b1v o with|some c=>b1p p T call fr c|none=>O4 p T fr o
inductive Ex where
 | normal
 | exit (id:Nat)
 | ret
def a1W (b:Bool):Value->Bool|.bool b'=>b'==b|_=>false
def a4A (ops:List Oper)(j:Nat):Option Tmp:=match a0k ops j with|none=>none|some o=>o.dst
def a1Y (ops:List Oper)(fr:List Value)(o:Oper):Bool:=match o.guard with|none=>true|some jb=>match a4A ops jb.1 with|some t=>a1W jb.2 (D5 fr t)|none=>false
def Q3 (fr:List Value)(o:Oper)(v:Value):List Value:=match o.dst with|some t=>a4W fr t v|none=>fr
def a3Q (fr:List Value)(rs:List ResultVar):M (List Value):=List.rec (motive:=λ_=>M (List Value)) (M.pure []) (λr _ ih=>match r with|.tmp t=>M.bind ih λvs=>M.pure (D5 fr t::vs)|.cell a t=>a0C (D5 fr a) λad=>M.bind (a4R T t ad) λv=>M.bind ih λvs=>M.pure (v::vs)) rs
def a8a:List Value->Value|[]=>.tuple ⟨[]⟩|v::vs=>match vs with|[]=>v|w::ws=>.tuple ⟨v::w::ws⟩
def a6d (call:Nat->List Value->M Value)(ops os:List Oper):List Value->M (List Value):=List.rec (motive:=λ_=>List Value->M (List Value)) M.pure (λo _ ih fr=>match a1Y ops fr o with|true=>M.bind (Z4 p T call fr o.op) λv=>a8s v λv=>ih (Q3 fr o v)|false=>ih (Q3 fr o undef)) os
def M.foot {α:Type}(m:M α):M (α×(List Nat×List Nat)):=λs=>match m ⟨s.c,s.h,[],[]⟩with|none=>none|some x=>some ((x.1,(x.2.r,x.2.w)),⟨x.2.c,x.2.h,E5 x.2.r s.r,E5 x.2.w s.w⟩)
def a2t (call:Nat->List Value->M Value)(ops os:List Oper):List Value->M (List Value×List (List Nat×List Nat)):=List.rec (motive:=λ_=>List Value->M (List Value×List (List Nat×List Nat))) (λfr=>M.pure (fr,[])) (λo _ ih fr=>match a1Y ops fr o with|true=>M.bind (M.foot (Z4 p T call fr o.op)) λx=>a8s x.1 λv=>M.bind (ih (Q3 fr o v)) λy=>M.pure (y.1,x.2::y.2)|false=>M.bind (ih (Q3 fr o undef)) λy=>M.pure (y.1,([],[])::y.2)) os
def a2V (i:Nat)(l:List Nat):Bool:=List.rec (motive:=λ_=>Bool) false (λx _ ih=>match Nat.beq i x with|true=>true|false=>ih) l
def a0d (l m:List Nat):Bool:=J7 (λi=>!(a2V i m)) l
def b1C (os:List Operand):List Nat:=List.rec (motive:=λ_=>List Nat) [] (λo _ ih=>match o with|.tmp t=>t::ih|_=>ih) os
def a3C (ops:List Oper)(o:Oper):List Nat:=match o.guard with|none=>b1C o.op.operands.toList|some jb=>match a4A ops jb.1 with|some t=>t::b1C o.op.operands.toList|none=>b1C o.op.operands.toList
def a2O (o:Oper):List Nat:=match o.dst with|some t=>[t]|none=>[]
def free2 (ops:List Oper)(x y:Oper×(List Nat×List Nat)):Bool:=a0d x.2.2 y.2.1&&a0d x.2.2 y.2.2&&a0d y.2.2 x.2.1&&a0d (a2O x.1) (a3C ops y.1)&&a0d (a2O x.1) (a2O y.1)&&a0d (a2O y.1) (a3C ops x.1)
def a5W (ps:List (List Nat))(e:Edge):List Nat:=match Region.binds .any e with
 |true=>match a0k ps e.on with|some l=>e.on::l|none=>[]
 |false=>[]
def a4T (f:Edge->List Nat)(l:List Edge):List Nat:=List.rec (motive:=λ_=>List Nat) [] (λe _ ih=>E5 (f e) ih) l
def a7E (ops:List Oper)(pj:List Nat)(y:Oper×(List Nat×List Nat))(xs:List (Oper×(List Nat×List Nat))):Nat->Bool:=List.rec (motive:=λ_=>Nat->Bool) (λ_=>true) (λx _ ih i=>match a2V i pj||free2 ops x y with|true=>ih (i+1)|false=>false) xs
def a7C (n:Nat)(l:List Edge):Bool:=J7 (λe=>match Region.binds .any e with|true=>Nat.blt e.on n|false=>true) l
def a3f (ops:List Oper)(ys:List (Oper×(List Nat×List Nat))):List (Oper×(List Nat×List Nat))->List (List Nat)->Nat->Bool:=List.rec (motive:=λ_=>List (Oper×(List Nat×List Nat))->List (List Nat)->Nat->Bool) (λ_ _ _=>true) (λy _ ih xs ps n=>match a7C n y.1.after.toList&&a7E ops (a4T (a5W ps) y.1.after.toList) y xs 0 with|true=>ih (E5 xs [y]) (E5 ps [a4T (a5W ps) y.1.after.toList]) (n+1)|false=>false) ys
def a4N {α β:Type}(l:List α):List β->List (α×β):=List.rec (motive:=λ_=>List β->List (α×β)) (λ_=>[]) (λa _ ih m=>match m with|[]=>[]|b::m=>(a,b)::ih m) l
def region (call:Nat->List Value->M Value)(ops:List Oper)(draw:Bool)(fr:List Value):M (Ex×List Value):=match draw with|false=>M.bind (a6d p T call ops ops fr) λfr'=>M.pure (.normal,fr')|true=>M.bind (a2t p T call ops ops fr) λy=>M.guard (a3f ops (a4N ops y.2) [] [] 0)<|M.pure (.normal,y.1)
def c7P (call:Nat->List Value->M Value)(ih:Code->List Value->M (Ex×List Value))(c:Code)(fr:List Value):M (Ex×List Value):=match c with
 |.skip=>M.pure (.normal,fr)|.region _ ops draw=>region p T call ops.toList draw fr|.seq a b=>M.bind (ih a fr) λr=>match r.1 with|.normal=>ih b r.2|.exit id=>M.pure (.exit id,r.2)|.ret=>M.pure (.ret,r.2)
 |.cond x a b=>M.obind (X5 T fr x) λv=>match v with
  |.bool t=>match t with|true=>ih a fr|false=>ih b fr
  |_=>M.fail
 |.block id b=>M.bind (ih b fr) λr=>match r.1 with
  |.normal=>M.pure (.normal,r.2)|.exit id'=>match Nat.beq id' id with|true=>M.pure (.normal,r.2)|false=>M.pure (.exit id',r.2)
  |.ret=>M.pure (.ret,r.2)
 |.loop b=>fList fr λfr=>M.bind (ih b fr) λr=>match r.1 with|.normal=>ih (.loop b) r.2|.exit id=>M.pure (.exit id,r.2)|.ret=>M.pure (.ret,r.2)
 |.exit id=>M.pure (.exit id,fr)|.ret=>M.pure (.ret,fr)|_=>M.fail
def a6W (call:Nat->List Value->M Value)(n:Nat):Code->List Value->M (Ex×List Value):=Nat.rec (motive:=λ_=>Code->List Value->M (Ex×List Value)) (λ_ _=>M.fail) (λ_ ih=>c7P p T call ih) n
def a0l (n:Nat):List Value:=Nat.rec (motive:=λ_=>List Value) [] (λ_ ih=>undef::ih) n
def d6y:Next->Option Value|.value v=>some v|_=>none
def b7O (f:Nat)(args:List Value):M Value:=M.guard (J7 plain args)<|M.obind (a0E p (callFunc f ⟨args⟩)) λx=>M.obind (d6y x) λv=>M.guard (K5 3 v)<|M.pure v
def b1P (fn:Func)(r:Ex×List Value):M Value:=match r.1 with|.exit _=>M.fail|_=>M.bind (a3Q T r.2 fn.results.toList) λvs=>M.pure (a8a vs)
def enter (call:Nat->List Value->M Value)(n:Nat)(fn:Func)(f:Nat)(args:List Value):M Value:=match fn.body with|none=>b7O p f args|some c=>M.bind (a6W p T call n c (E5 args (a0l (fn.ntmps-z8 args)))) λr=>b1P T fn r
def a7o (ext:Nat->Option (List Value->M Value))(n:Nat):Nat->List Value->M Value:=Nat.rec (motive:=λ_=>Nat->List Value->M Value) (λ_ _=>M.fail) (λn ih f args=>match ext f with|some g=>g args|none=>M.obind (T.funcs.get f) λfn=>enter p T ih n fn f args) n
end
end Go.V
end
noncomputable section
namespace Go.V
inductive CR where
 | ret (v:Value)
 | pan (v:Value)
inductive Xc where
 | normal
 | exit (id:Nat)
 | ret
 | pan (v:Value)
abbrev J4:=Nat->List Value->M CR
def bcase {α:Type}(b:Bool)(x y:α):α:=Bool.rec (motive:=λ_=>α) y x b
def a5Z {β:Type}(v:Value)(x y:M β):M β:=match v with|.bool b=>bcase b x y|_=>M.fail
def a1B {β:Type}(r:CR)(kn kp:Value->M β):M β:=match r with|.ret v=>kn v|.pan v=>kp v
def V3 {β:Type}(x:Xc)(kn:M β)(ke:Nat->M β)(kr:M β)(kp:Value->M β):M β:=match x with|.normal=>kn|.exit id=>ke id|.ret=>kr|.pan v=>kp v
def R7 {σ:Type}(body:σ->M (Xc×σ))(n:Nat):σ->M (Xc×σ):=Nat.rec (motive:=λ_=>σ->M (Xc×σ)) (λ_=>M.fail) (λ_ ih x=>M.bind (body x) λr=>V3 r.1 (ih r.2) (λid=>M.pure (.exit id,r.2)) (M.pure (.ret,r.2)) (λv=>M.pure (.pan v,r.2))) n
def c3x {α:Type}(l:List Value):(List Value->α)->α:=List.rec (motive:=λ_=>(List Value->α)->α) (λk=>k []) (λx _ ih k=>a8s x λx=>ih λl=>k (x::l)) l
def c5U (body:List Value->M (Xc×List Value))(n:Nat):List Value->M (Xc×List Value):=Nat.rec (motive:=λ_=>List Value->M (Xc×List Value)) (λ_=>M.fail) (λ_ ih x=>M.bind (body x) λr=>c3x r.2 λxs=>V3 r.1 (ih xs) (λid=>M.pure (.exit id,xs)) (M.pure (.ret,xs)) (λv=>M.pure (.pan v,xs))) n
structure Cb where
 bv:∀ β:Type,M Value→(Value→M β)→M β
 bc:∀ β:Type,M CR→(Value→M β)→(Value→M β)→M β
 lp:(List Value→M (Xc×List Value))→Nat→List Value→M (Xc×List Value)
 bj:∀ β:Type,M (Xc×List Value)→(Xc→List Value→M β)→M β
def o8:Cb:=⟨λ_ m k=>M.bind m k,λ_ m kn kp=>M.bind m λr=>a1B r kn kp,R7,λ_ m k=>M.bind m λr=>k r.1 r.2⟩
def a4b:Cb:=⟨λ_ m k=>M.bind m λv=>a8s v k,λ_ m kn kp=>M.bind m λr=>a1B r (λv=>a8s v kn) kp,c5U,λ_ m k=>M.bind m λr=>c3x r.2 λxs=>k r.1 xs⟩
def O8 (fr:List Value)(W:List Nat):List Value:=K4 (D5 fr) W
def a5L (vs:List Value)(W:List Nat):Nat->List Value->List Value:=List.rec (motive:=λ_=>Nat->List Value->List Value) (λ_ fr=>fr) (λt _ ih i fr=>ih (Nat.succ i) (a4W fr t (D5 vs i))) W
def L9 (W:List Nat)(vs fr:List Value):List Value:=a5L vs W 0 fr
section
variable (p:Program)(T:Tab)
def c3u:Nat->List Value->M Value:=λ_ _=>M.fail
def a2a (call:J4):Nat->List Value->M Value:=λf vs=>M.bind (call f vs) λr=>a1B r M.pure λ_=>M.fail
def b1x (v:Value)(vs:List Value):Option (Nat×List Value):=match v with
 |.func fn first captured=>match fn with|.func g=>some (g,E5 first.toList (E5 vs captured.toList))|_=>none
 |_=>none
def a4Z (fr:List Value)(f:Operand)(args:List Operand):Option (Nat×List Value):=match X5 T fr f with
 |some v=>match a0R T fr args with|some vs=>b1x v vs|none=>none
 |none=>none
def a5u:Value->Bool|.iface _ _=>true|_=>false
def a4g (cb:Cb)(call:J4){β:Type}(fr:List Value)(o:Op)(kn kp:Value->M β):M β:=match o with
 |.move x=>M.obind (X5 T fr x) kn|.assign x=>M.obind (X5 T fr x) kn|.call c=>match c.callee with|.value f=>M.obind (a4Z T fr f c.args.toList) λga=>cb.bc β (call ga.1 ga.2) kn kp|.builtin b=>cb.bv β (a0J p T fr b c.args c.argTypes) kn|_=>M.fail
 |.panic x=>M.obind (X5 T fr x) λv=>M.guard (a5u v) (kp v)|o=>cb.bv β (O4 p T fr o) kn
def a0p (cb:Cb)(pn:Bool)(call:J4){β:Type}(os:List Oper):List Value->(Xc->List Value->M β)->M β:=List.rec (motive:=λ_=>List Value->(Xc->List Value->M β)->M β) (λfr k=>k .normal fr) (λo _ ih fr k=>a4g p T cb call fr o.op (λv=>ih (Q3 fr o v) k) (λv=>bcase pn (k (.pan v) fr) M.fail)) os
def a4s:Option (Nat×Bool)->Option (Nat×Bool)->Bool|none,none=>true|some a,some b=>Nat.beq a.1 b.1&&(a.2==b.2)|_,_=>false
def a1X (os:List Oper):List (Option (Nat×Bool)×List Oper):=List.rec (motive:=λ_=>List (Option (Nat×Bool)×List Oper)) [] (λo _ ih=>match ih with|[]=>[(o.guard,[o])]|g::gs=>match a4s o.guard g.1 with|true=>(g.1,o::g.2)::gs|false=>(o.guard,[o])::g::gs) os
def O1 (os:List Oper):List Nat:=List.rec (motive:=λ_=>List Nat) [] (λo _ ih=>match o.dst with|some t=>t::ih|none=>ih) os
def a8g (cb:Cb)(pn:Bool)(call:J4){β:Type}(ops:List Oper)(gs:List (Option (Nat×Bool)×List Oper)):List Value->(Xc->List Value->M β)->M β:=List.rec (motive:=λ_=>List Value->(Xc->List Value->M β)->M β) (λfr k=>k .normal fr) (λg _ ih fr k=>match g.1 with|none=>a0p p T cb pn call g.2 fr λex fr'=>V3 ex (ih fr' k) (λ_=>M.fail) M.fail λv=>k (.pan v) fr'|some jb=>M.obind (a4A ops jb.1) λt=>M.guard (!(a2V t (O1 g.2)))<|cb.bj β (bcase (a1W jb.2 (D5 fr t)) (a0p p T cb pn call g.2 fr λex fr'=>M.pure (ex,O8 fr' (O1 g.2))) (M.pure (.normal,a0l (z8 (O1 g.2))))) λex vs=>V3 ex (ih (L9 (O1 g.2) vs fr) k) (λ_=>M.fail) M.fail λv=>bcase pn (k (.pan v) (L9 (O1 g.2) vs fr)) M.fail) gs
def b7n (call:J4)(ops:List Oper)(n:Nat)(U:List Nat)(vs:List Value)(W:List Nat):M (Xc×List Value):=M.bind (a2t p T (a2a call) ops ops (L9 U vs (a0l n))) λy=>M.guard (a3f ops (a4N ops y.2) [] [] 0)<|M.pure (.normal,O8 y.1 W)
def a4E (ops os:List Oper):List Nat:=List.rec (motive:=λ_=>List Nat) [] (λo _ ih=>E5 (a3C ops o) ih) os
def c3k (i:Nat)(l:List Nat):List Nat:=match a2V i l with|true=>l|false=>i::l
def a2Y (l:List Nat):List Nat:=List.rec (motive:=λ_=>List Nat) [] (λi _ ih=>c3k i ih) l
def b8A (cb:Cb)(pn:Bool)(call:J4){β:Type}(ops:List Oper)(draw:Bool)(fr:List Value)(k:Xc->List Value->M β):M β:=match draw with|false=>a8g p T cb pn call ops (a1X ops) fr k|true=>cb.bj β (b7n p T call ops (z8 fr) (a2Y (a4E ops ops)) (O8 fr (a2Y (a4E ops ops))) (O1 ops)) λ_ vs=>k .normal (L9 (O1 ops) vs fr)
def a5s (call:J4)(ops os:List Oper):List Value->M (Xc×List Value):=List.rec (motive:=λ_=>List Value->M (Xc×List Value)) (λfr=>M.pure (.normal,fr)) (λo _ ih fr=>match a1Y ops fr o with|true=>a4g p T o8 call fr o.op (λv=>ih (Q3 fr o v)) (λv=>M.pure (.pan v,fr))|false=>ih (Q3 fr o undef)) os
def b4o (call:J4)(ops:List Oper)(draw:Bool)(fr:List Value):M (Xc×List Value):=match draw with|false=>a5s p T call ops ops fr|true=>M.bind (a2t p T (a2a call) ops ops fr) λy=>M.guard (a3f ops (a4N ops y.2) [] [] 0)<|M.pure (.normal,y.1)
def a6c (id:Nat)(x:Xc):Xc:=match x with
 |.exit id'=>match Nat.beq id' id with|true=>.normal|false=>.exit id'
 |x=>x
def a0m (N:Nat)(call:J4):Code->List Value->M (Xc×List Value)|.skip,fr=>M.pure (.normal,fr)|.region _ ops draw,fr=>b4o p T call ops.toList draw fr|.seq a b,fr=>M.bind (a0m N call a fr) λr=>V3 r.1 (a0m N call b r.2) (λid=>M.pure (.exit id,r.2)) (M.pure (.ret,r.2)) (λv=>M.pure (.pan v,r.2))|.cond x a b,fr=>M.obind (X5 T fr x) λv=>a5Z v (a0m N call a fr) (a0m N call b fr)|.block id b,fr=>M.bind (a0m N call b fr) λr=>M.pure (a6c id r.1,r.2)|.loop b,fr=>R7 (a0m N call b) N fr|.exit id,fr=>M.pure (.exit id,fr)|.ret,fr=>M.pure (.ret,fr)|_,_=>M.fail
inductive Pl where
 | d
 | s (j:Option (List Nat)) (a b:Pl)
 | l (W:List Nat) (a:Pl)
def Pl.a:Pl->Pl|.d=>.d|.s _ a _=>a|.l _ a=>a
def Pl.b:Pl->Pl|.s _ _ b=>b|_=>.d
def Pl.j:Pl->Option (List Nat)|.s j _ _=>j|_=>none
def Pl.w:Pl->List Nat|.l W _=>W|_=>[]
def a0G:Code->List Nat|.region _ ops _=>O1 ops.toList|.seq a b=>E5 (a0G a) (a0G b)|.cond _ a b=>E5 (a0G a) (a0G b)|.block _ b=>a0G b|.loop b=>a0G b|_=>[]
def b0B (l m:List Nat):Bool:=J7 (λi=>a2V i m) l
def a2E:Code->List Nat|.seq a b=>E5 (a2E a) (a2E b)|.cond _ a b=>E5 (a2E a) (a2E b)|.block _ b=>a2E b|.loop b=>a2E b|.exit id=>[id]|_=>[]
def hasRet:Code->Bool|.seq a b=>hasRet a||hasRet b|.cond _ a b=>hasRet a||hasRet b|.block _ b=>hasRet b|.loop b=>hasRet b|.ret=>true|_=>false
def a4k {β:Type}(E:List Nat)(id:Nat)(k:Xc->M β):M β:=List.rec (motive:=λ_=>M β) M.fail (λe _ ih=>bcase (Nat.beq id e) (k (.exit e)) ih) E
def b4N {β:Type}(pn:Bool)(E:List Nat)(n r:Bool)(ex:Xc)(k:Xc->M β):M β:=V3 ex (bcase n (k .normal) M.fail) (λid=>a4k E id k) (bcase r (k .ret) M.fail) (λv=>bcase pn (k (.pan v)) M.fail)
def N9 (cb:Cb)(pn:Bool)(N:Nat)(call:J4):Code->Pl->(β:Type)->List Value->(Xc->List Value->M β)->M β
 |.skip,_,_,fr,k=>k .normal fr|.region _ ops draw,_,_,fr,k=>b8A p T cb pn call ops.toList draw fr k|.seq a b,pl,β,fr,k=>match pl.j with|none=>N9 cb pn N call a pl.a β fr λex fr'=>V3 ex (N9 cb pn N call b pl.b β fr' k) (λid=>k (.exit id) fr') (k .ret fr') (λv=>k (.pan v) fr')|some W=>M.guard (b0B (a0G a) W)<|cb.bj β (N9 cb pn N call a pl.a (Xc×List Value) fr λex fr'=>M.pure (ex,O8 fr' W)) λex vs=>b4N pn (a2Y (a2E a)) true (hasRet a) ex λx=>V3 x (N9 cb pn N call b pl.b β (L9 W vs fr) k) (λid=>k (.exit id) (L9 W vs fr)) (k .ret (L9 W vs fr)) (λv=>k (.pan v) (L9 W vs fr))
 |.cond x a b,pl,β,fr,k=>M.obind (X5 T fr x) λv=>a5Z v (N9 cb pn N call a pl.a β fr k) (N9 cb pn N call b pl.b β fr k)|.block id b,pl,β,fr,k=>N9 cb pn N call b pl.a β fr λex fr'=>k (a6c id ex) fr'|.loop b,pl,β,fr,k=>M.guard (b0B (a0G b) pl.w)<|cb.bj β (cb.lp (λxs=>N9 cb pn N call b pl.a (Xc×List Value) (L9 pl.w xs fr) λex fr'=>M.pure (ex,O8 fr' pl.w)) N (O8 fr pl.w)) λex vs=>b4N pn (a2Y (a2E b)) false (hasRet b) ex λx=>k x (L9 pl.w vs fr)|.exit id,_,_,fr,k=>k (.exit id) fr|.ret,_,_,fr,k=>k .ret fr|_,_,_,_,_=>M.fail
def a3N (cb:Cb){β:Type}(fr:List Value)(rs:List ResultVar):(List Value->M β)->M β:=List.rec (motive:=λ_=>(List Value->M β)->M β) (λk=>k []) (λr _ ih k=>match r with|.tmp t=>ih λvs=>k (D5 fr t::vs)|.cell a t=>a0C (D5 fr a) λad=>cb.bv β (a4R T t ad) λv=>ih λvs=>k (v::vs)) rs
def c3m (cb:Cb)(fn:Func)(ex:Xc)(fr:List Value):M CR:=V3 ex (a3N T cb fr fn.results.toList λvs=>M.pure (.ret (a8a vs))) (λ_=>M.fail) (a3N T cb fr fn.results.toList λvs=>M.pure (.ret (a8a vs))) λv=>M.pure (.pan v)
def a3v (cb:Cb)(pn:Bool)(N:Nat)(call:J4)(fn:Func)(c:Code)(pl:Pl)(args:List Value):M CR:=N9 p T cb pn N call c pl CR (E5 args (a0l (fn.ntmps-z8 args))) λex fr=>c3m T cb fn ex fr
def a7j (N:Nat)(call:J4)(fn:Func)(f:Nat)(args:List Value):M CR:=match fn.body with|none=>M.bind (b7O p f args) λv=>M.pure (.ret v)|some c=>M.bind (a0m p T N call c (E5 args (a0l (fn.ntmps-z8 args)))) λr=>c3m T o8 fn r.1 r.2
def b7d (ext:Nat->Option (List Value->M Value))(N n:Nat):J4:=Nat.rec (motive:=λ_=>J4) (λ_ _=>M.fail) (λ_ ih f args=>match ext f with|some g=>M.bind (g args) λv=>M.pure (.ret v)|none=>M.obind (T.funcs.get f) λfn=>a7j p T N ih fn f args) n
abbrev a2x:=Trie (J4->List Value->M CR)
def o9 (sh:a2x)(n:Nat):J4:=Nat.rec (motive:=λ_=>J4) (λ_ _=>M.fail) (λ_ ih f args=>M.obind (sh.get f) λg=>g ih args) n
end
end Go.V
end
section
namespace Go.V
theorem G8 {α}(l:List α):z8 l=l.length:=by induction l<;>first|rfl|grind[z8]
theorem a2T {α}(l:List α):∀i,a0k l i=l[i]?:=by induction l with|nil=>intro i;rfl|cons v l ih=>intro i;cases i with|zero=>rfl|succ i=>exact ih i
theorem a0z {α}(l:List α):∀i,G7 l i=l.drop i:=by induction l with|nil=>grind[G7]|cons v l ih=>intro i;cases i with|zero=>rfl|succ i=>exact ih i
theorem a2w {α}(l:List α):∀i,a0B l i=l.take i:=by induction l with|nil=>grind[a0B]|cons v l ih=>intro i;cases i with|zero=>rfl|succ i=>simp_all[a0B]
theorem E9 {α}(l m:List α):E5 l m=l++m:=by induction l<;>first|rfl|grind[E5]
theorem a0N {α β}(f:α->β)(l):K4 f l=l.map f:=by induction l<;>first|rfl|grind[K4]
theorem U5 {α}(f:α->Bool)(v l):J7 f (v::l)=(f v&&J7 f l):=by show Bool.rec (motive:=λ_=>Bool) false (J7 f l) (f v)=_;cases f v<;>rfl
theorem c5r {α}(f:α->Bool)(l):J7 f l=l.all f:=by induction l<;>first|rfl|grind[U5]
theorem M5 {α}(f:α->Bool)(l):J7 f l=true↔∀x∈l,f x=true:=by rw[c5r,rE]
theorem Trie.get_node_zero {α}(v:Option α)(l r):(Trie.node v l r).get 0=v:=rfl
theorem Trie.get_node_succ {α}(v:Option α)(l r k):(Trie.node v l r).get (k+1)=if k%2=0 then l.get (k/2)else r.get (k/2):=by show(match k%2 with|0=>l.get (k/2)|_+1=>r.get (k/2))=_;split<;>rename_i h<;>simp[h]
theorem Trie.get_leaf {α}(n):(Trie.leaf:Trie α).get n=none:=rfl
def Trie.put {α:Type}(o:Option α)(f:Nat)(t:Trie α)(n:Nat):Trie α:=Trie.putK o f t n id
theorem Trie.putK_eq' {α}(o f):∀(β) (t) (n) (q:Trie α->β),Trie.putK o f t n q=q (Trie.put o f t n):=by induction f with|zero=>intro β t n q;rfl|succ f ih=>intro β t n q;cases n with|zero=>cases t<;>rfl|succ k=>have hk:k%2=0\/k%2=1:=zy;cases t with|leaf=>show(match k%2 with|0=>Trie.putK o f .leaf (k/2) λt=>q (.node none t .leaf)|_+1=>Trie.putK o f .leaf (k/2) λt=>q (.node none .leaf t))=q (match k%2 with|0=>Trie.putK o f .leaf (k/2) λt=>id (Trie.node none t .leaf)|_+1=>Trie.putK o f .leaf (k/2) λt=>id (Trie.node none .leaf t));rcases hk with h|h<;>simp only[h]<;>rw[ih,ih]<;>rfl|node v l r=>show(match k%2 with|0=>Trie.putK o f l (k/2) λt=>q (.node v t r)|_+1=>Trie.putK o f r (k/2) λt=>q (.node v l t))=q (match k%2 with|0=>Trie.putK o f l (k/2) λt=>id (Trie.node v t r)|_+1=>Trie.putK o f r (k/2) λt=>id (Trie.node v l t));rcases hk with h|h<;>simp only[h]<;>rw[ih,ih]<;>rfl
theorem Trie.putK_eq {α β}(o f t n)(q:Trie α->β):Trie.putK o f t n q=q (Trie.put o f t n):=Trie.putK_eq' o f β t n q
theorem Trie.get_put {α}(o:Option α):∀(f) (t) (n),n<f->∀m,(Trie.put o f t n).get m=if m=n then o else t.get m:=by
 intro f;induction f with
  |zero=>omega|succ f ih=>
   intro t n h m;cases n with
    |zero=>
     cases t with
      |leaf=>show(Trie.node o .leaf .leaf).get m=_;cases m<;>first|rfl|grind[Trie.get_node_succ,Trie.get_leaf]
      |node v l r=>show(Trie.node o l r).get m=_;cases m<;>first|rfl|grind[Trie.get_node_succ]
    |succ k=>
     have hk:k%2=0\/k%2=1:=zy;have hf:k/2<f:=zy;cases t with
      |leaf=>
       have e:Trie.put o (f+1) (.leaf:Trie α) (k+1)=match k%2 with|0=>Trie.node none (Trie.put o f .leaf (k/2)) .leaf|_+1=>Trie.node none .leaf (Trie.put o f .leaf (k/2)):=by show(match k%2 with|0=>Trie.putK o f .leaf (k/2) λt=>id (Trie.node none t .leaf)|_+1=>Trie.putK o f .leaf (k/2) λt=>id (Trie.node none .leaf t))=_;rcases hk with h|h<;>simp only[h]<;>rw[Trie.putK_eq]<;>rfl
       rw[e];cases m<;>first|rfl|grind[Trie.get_node_zero,Trie.get_leaf,Trie.get_node_succ]
      |node v l r=>
       have e:Trie.put o (f+1) (.node v l r) (k+1)=match k%2 with|0=>Trie.node v (Trie.put o f l (k/2)) r|_+1=>Trie.node v l (Trie.put o f r (k/2)):=by show(match k%2 with|0=>Trie.putK o f l (k/2) λt=>id (Trie.node v t r)|_+1=>Trie.putK o f r (k/2) λt=>id (Trie.node v l t))=_;rcases hk with h|h<;>simp only[h]<;>rw[Trie.putK_eq]<;>rfl
       rw[e];cases m<;>first|rfl|grind[Trie.get_node_zero,Trie.get_node_succ]
theorem a2U {α}(n)(k:Nat->α):a8M n k=k n:=by cases n<;>rfl
theorem d6J {α}(n)(k:Int->α):d3I n k=k n:=by cases n<;>simp[d3I,a2U]
theorem Y3 {β α}(l):∀(k:List β->α),fList l k=k l:=by induction l with|nil=>intro k;rfl|cons x l ih=>intro k;exact ih λl=>k (x::l)
theorem d2c {α}(g)(k:Option Nat->α):c6D g k=k g:=by cases g<;>simp[c6D,a2U]
theorem d2U {α}(a)(k:Option Addr->α):b9V a k=k a:=by cases a<;>simp_all[b9V,a2U,d2c]
theorem a8A {α}(v)(k:Value->α):a8s v k=k v:=by cases v with|bool b=>cases b<;>rfl|_=>simp[a8s,d6J,a2U,d2U,Y3]
theorem D6 {α β m}{f:α->M β}{s s2 b}(h:M.bind m f s=some (b,s2)):∃a s1,m s=some (a,s1)/\f a s1=some (b,s2):=by unfold M.bind at h;grind
theorem H9 {α β o}{f:α->M β}{s s2 b}(h:M.obind o f s=some (b,s2)):∃a,o=some a/\f a s=some (b,s2):=by cases o with|none=>cases h|some a=>exact⟨a,rfl,h⟩
theorem I4 {α c}{m:M α}{s s2 b}(h:M.guard c m s=some (b,s2)):c=true/\m s=some (b,s2):=by cases c with|false=>cases h|true=>exact⟨rfl,h⟩
theorem a3s {α}{o:Option α}{s s2 b}(h:M.lift o s=some (b,s2)):o=some b/\s2=s:=by cases o with|none=>cases h|some a=>cases h;simp_all
theorem x8 {α}{a b:α}{s s2}(h:M.pure a s=some (b,s2)):b=a/\s2=s:=by cases h;simp_all
theorem b0L {i o s s2}(h:rd i s=some (o,s2)):i<s.c/\s.h.get i=some o/\s2.c=s.c/\s2.h=s.h:=by unfold rd at h;split at h;rename_i hb;split at h;rename_i o' ho;cases h;simp_all;cases h;cases h
def Fr {α:Type}(m:M α):Prop:=∀s a s',m s=some (a,s')->∃dr dw,s'.r=dr++s.r/\s'.w=dw++s.w/\s.c<=s'.c/\(∀i,i∈dr->i<s'.c)/\(∀i,i∈dw->i<s'.c)/\(∀i,s.c<=i->i<s'.c->i∈dw)/\(∀i,i∉dw->s'.h.get i=s.h.get i)/\∀h2 r2 w2,(∀i,(i∈dr\/i∈dw)->i<s.c->h2.get i=s.h.get i)->∃h2',m ⟨s.c,h2,r2,w2⟩=some (a,⟨s'.c,h2',dr++r2,dw++w2⟩)/\(∀i,i∈dw->h2'.get i=s'.h.get i)/\(∀i,i∉dw->h2'.get i=h2.get i)
theorem Fr.pure {α}(a:α):Fr (M.pure a):=by intro s a' s' h;cases h;exact⟨[],[],rfl,rfl,wP _,zq,zq,λi h1 h2=>zy,λ_ _=>rfl,λh2 r2 w2 _=>⟨h2,rfl,zq,λ_ _=>rfl⟩⟩
theorem Fr.fail {α}:Fr (M.fail:M α):=by intro s a s' h;cases h
theorem Fr.lift {α}(o:Option α):Fr (M.lift o):=by cases o with|none=>exact Fr.fail|some a=>exact Fr.pure a
theorem Fr.obind {α β}(o){f:α->M β}(h:∀a,Fr (f a)):Fr (M.obind o f):=by cases o with|none=>exact Fr.fail|some a=>exact h a
theorem Fr.guard {α}(b){m:M α}(h:Fr m):Fr (M.guard b m):=by cases b with|true=>exact h|false=>exact Fr.fail
theorem Fr.bind {α β m}{f:α->M β}(hm:Fr m)(hf:∀a,Fr (f a)):Fr (M.bind m f):=by
 intro s b s2 h;cases e:m s with
  |none=>grind[M.bind]|some x=>
   obtain⟨a,s1⟩:=x;have h':f a s1=some (b,s2):=by grind[M.bind]
   obtain⟨dr1,dw1,e1,e2,e3,e4,e5,e6,e7,e8⟩:=hm s a s1 e;obtain⟨dr2,dw2,g1,g2,g3,g4,g5,g6,g7,g8⟩:=hf a s1 b s2 h';refine⟨dr2++dr1,dw2++dw1,by rw[g1,e1,vX],by rw[g2,e2,vX],zy,?_,?_,?_,?_,?_⟩;grind;grind;grind;simp_all;intro h2 r2 w2 hag;obtain⟨h2',q1,q2,q3⟩:=e8 h2 r2 w2 (λi hi hc=>hag i (by rcases hi with hi|hi<;>simp[hi]) hc);obtain⟨h3,p1,p2,p3⟩:=g8 h2' (dr1++r2) (dw1++w2) zo;grind[M.bind]
theorem Fr.rd (i:Nat):Fr (rd i):=by intro s a s' h;unfold V.rd at h;split at h;rename_i hb;have hlt:i<s.c:=zn;split at h;rename_i o ho;cases h;refine⟨[i],[],rfl,rfl,wP _,zo,zq,λj h1 h2=>zo,λ_ _=>rfl,?_⟩;intro h2 r2 w2 hag;refine⟨h2,?_,zq,λ_ _=>rfl⟩;have:=hag i zq hlt;grind[V.rd];cases h;cases h
theorem Fr.wr (i:Nat)(o:VObj):Fr (wr i o):=by intro s a s' h;unfold V.wr at h;split at h;rename_i hb;have hlt:i<s.c:=zn;split at h;rename_i o' ho;rw[Trie.putK_eq]at h;cases h;refine⟨[],[i],rfl,rfl,wP _,zq,zo,λj h1 h2=>zo,?_,?_⟩;simp_all[Trie.get_put];intro h2 r2 w2 hag;have h1:=hag i zq hlt;refine⟨Trie.put (some o) (i+1) h2 i,?_,?_,?_⟩;grind[V.wr,Trie.putK_eq];intro j hj;obtain rfl:j=i:=zo;simp_all[Trie.get_put];simp_all[Trie.get_put];cases h;cases h
theorem b3V (o s):new o s=some (s.c,⟨s.c+1,Trie.put (some o) (s.c+1) s.h s.c,s.r,s.c::s.w⟩):=by unfold new;rw[Trie.putK_eq,a2U]
theorem Fr.new (o:VObj):Fr (new o):=by intro s a s' h;rw[b3V]at h;cases h;refine⟨[],[s.c],rfl,rfl,vo _,zq,zq,?_,?_,?_⟩;grind;simp_all[Trie.get_put];intro h2 r2 w2 _;refine⟨Trie.put (some o) (s.c+1) h2 s.c,b3V _ _,?_,?_⟩;intro j hj;obtain rfl:j=s.c:=zo;simp_all[Trie.get_put];simp_all[Trie.get_put]
end Go.V
end
section
namespace Go.V
section
variable (p:Program)(T:Tab)
theorem Fr.asCells {α:Type}(o:VObj){k:List (Value×Nat)->Nat->Bool->M α}(h:∀a b c,Fr (k a b c)):Fr (a7M o k):=by cases o<;>first|exact h _ _ _|exact Fr.fail
theorem Fr.asMap {α:Type}(o:VObj){k:List (Value×Value)->M α}(h:∀a,Fr (k a)):Fr (c7d o k):=by cases o<;>first|exact h _|exact Fr.fail
theorem Fr.asPtr {α:Type}(v:Value){k:Addr->M α}(h:∀a,Fr (k a)):Fr (a0C v k):=by cases v<;>first|exact Fr.obind _ h|exact Fr.fail
theorem Fr.ti {α:Type}(t:TypeId){k:TI->M α}(h:∀a,Fr (k a)):Fr (ti T t k):=Fr.obind _ h
theorem Fr.ev (fr:List Value)(x:Operand){k:Value->M Value}(h:∀a,Fr (k a)):Fr (ev T fr x k):=Fr.obind _ h
theorem Fr.evs (fr:List Value)(x:List Operand){k:List Value->M Value}(h:∀a,Fr (k a)):Fr (evs T fr x k):=Fr.obind _ h
theorem Fr.fList {β α:Type}(l:List β){k:List β->M α}(h:∀a,Fr (k a)):Fr (fList l k):=by rw[Y3];exact h l
theorem Fr.fNat {α:Type}(l:Nat){k:Nat->M α}(h:∀a,Fr (k a)):Fr (a8M l k):=by rw[a2U];exact h l
theorem Fr.fVal {α:Type}(v:Value){k:Value->M α}(h:∀a,Fr (k a)):Fr (a8s v k):=by rw[a8A];exact h v
theorem Fr.pureV (o:Option Value):Fr (pureV o):=Fr.obind _ λ_=>Fr.guard _ (Fr.pure _)
theorem Fr.loadN (a:Addr)(n:Nat):Fr (loadN a n):=Fr.obind _ λ_=>Fr.bind (Fr.rd _) λ_=>Fr.asCells _ λ_ _ _=>Fr.lift _
theorem Fr.storeN (a:Addr)(vs:List Value):Fr (storeN a vs):=Fr.obind _ λ_=>Fr.bind (Fr.rd _) λ_=>Fr.asCells _ λ_ _ _=>Fr.guard _ (Fr.obind _ λ_=>Fr.fList _ λ_=>Fr.wr _ _)
theorem Fr.newCells (vs:List Value):Fr (Y9 vs):=Fr.guard _ (Fr.fList _ λ_=>Fr.bind (Fr.new _) λ_=>Fr.pure _)
theorem Fr.loadV (t:TypeId)(a:Addr):Fr (a4R T t a):=Fr.ti T _ λi=>by grind[Fr.guard,Fr.bind,Fr.loadN,Fr.pure]
theorem Fr.storeV (t:TypeId)(a:Addr)(v:Value):Fr (b7J T t a v):=Fr.ti T _ λ_=>Fr.guard _ (Fr.storeN _ _)
theorem Fr.elemAt (a:Addr)(i len elem:Nat):Fr (elemAt T a i len elem):=Fr.ti T _ λ_=>Fr.guard _ (Fr.pure _)
theorem Fr.indexAddrV (t:TypeId)(x ix:Value):Fr (a9W T t x ix):=Fr.ti T _ λi=>Fr.obind _ λj=>by grind[Fr.asPtr,Fr.elemAt,Fr.obind,Fr.ti,Fr.guard,Fr.fail]
theorem Fr.fieldAddrV (t:TypeId)(x:Value)(f:Nat):Fr (b2t T t x f):=Fr.ti T _ λi=>by grind[Fr.asPtr,Fr.obind,Fr.ti,Fr.guard,Fr.pure,Fr.fail]
theorem Fr.cut (a:Addr)(len elem:Nat)(lo hi:Option Value):Fr (cut T a len elem lo hi):=Fr.ti T _ λ_=>Fr.obind _ λ_=>Fr.obind _ λ_=>Fr.guard _ (Fr.pure _)
theorem Fr.cutStr (s:ByteArray)(lo hi:Option Value):Fr (a7Y s lo hi):=Fr.obind _ λ_=>Fr.obind _ λ_=>Fr.guard _ (by rw[Y3];exact Fr.pure _)
theorem Fr.cutNil (lo hi:Option Value):Fr (cutNil lo hi):=Fr.obind _ λ_=>Fr.obind _ λ_=>Fr.guard _ (Fr.pure _)
theorem Fr.sliceV (t:TypeId)(x:Value)(lo hi mx:Option Value):Fr (b3X T t x lo hi mx):=Fr.ti T _ λi=>Fr.guard _ (by split;grind[Fr.cutStr,Fr.fail];grind[Fr.ti,Fr.guard,Fr.cut,Fr.cutNil,Fr.fail];grind[Fr.asPtr,Fr.ti,Fr.bind,Fr.loadN,Fr.cut];exact Fr.fail)
theorem Fr.makeSliceV (t:TypeId)(l c:Value):Fr (b2f T t l c):=Fr.ti T _ λi=>by grind[Fr.ti,Fr.obind,Fr.guard,Fr.bind,Fr.newCells,Fr.pure,Fr.fail]
theorem Fr.source (n:Nat)(x:Value):Fr (a9p n x):=by unfold V.a9p;grind[Fr.guard,Fr.pure,Fr.loadN,Fr.fail]
theorem Fr.appendAt (e:TI)(a:Addr)(len:Nat)(vs:List Value)(m:Nat):Fr (appendAt e a len vs m):=Fr.obind _ λ_=>Fr.bind (Fr.rd _) λ_=>Fr.asCells _ λ_ _ _=>Fr.guard _ (Fr.guard _ (Fr.obind _ λ_=>Fr.fList _ λ_=>Fr.bind (Fr.wr _ _) λ_=>Fr.pure _))
theorem Fr.appendTo (e:TI)(s:Value)(vs:List Value):Fr (a1P e s vs):=by unfold V.a1P;grind[Fr.guard,Fr.pure,Fr.fNat,Fr.bind,Fr.newCells,Fr.appendAt,Fr.fail]
theorem Fr.appendV (ts:Array TypeId)(vs:List Value):Fr (appendV T ts vs):=Fr.obind _ λ_=>Fr.obind _ λ_=>Fr.ti T _ λd=>Fr.ti T _ λ_=>by grind[Fr.obind,Fr.ti,Fr.guard,Fr.bind,Fr.source,Fr.fList,Fr.appendTo,Fr.fail]
theorem Fr.mapAt (r:Nat):Fr (a6F r):=Fr.bind (Fr.rd _) λ_=>Fr.asMap _ λ_=>Fr.pure _
theorem Fr.entries (x:Value):Fr (b4Q x):=by unfold V.b4Q;grind[Fr.pure,Fr.mapAt,Fr.fail]
theorem Fr.lookupV (t:TypeId)(x ix:Value)(ok:Bool):Fr (b1L T t x ix ok):=Fr.ti T _ λd=>by split;grind[Fr.ti,Fr.guard,Fr.bind,Fr.entries,Fr.obind,Fr.pure];exact Fr.fail
theorem Fr.mapUpdateV (t:TypeId)(m k v:Value):Fr (a6N T t m k v):=Fr.ti T _ λd=>by split;grind[Fr.obind,Fr.ti,Fr.guard,Fr.bind,Fr.mapAt,Fr.fList,Fr.wr,Fr.fail];exact Fr.fail
theorem Fr.lenV (d:TypeDesc)(x:Value):Fr (d2O d x):=by unfold V.d2O;grind[Fr.pure,Fr.fail,Fr.bind,Fr.entries]
theorem Fr.convStr (e:TypeId)(b:ByteArray):Fr (c4V T e b):=Fr.ti T _ λ_=>Fr.guard _ (Fr.bind (Fr.newCells _) λ_=>Fr.pure _)
theorem Fr.convBytes (e:TypeId)(x:Value):Fr (convBytes T e x):=Fr.ti T _ λ_=>Fr.guard _ (Fr.bind (Fr.source _ _) λ_=>Fr.obind _ λ_=>Fr.pure _)
theorem Fr.convertV (s d:TypeId)(x:Value):Fr (b2S T s d x):=Fr.ti T _ λ_=>Fr.ti T _ λ_=>by grind[Fr.pure,Fr.fail,Fr.convStr,Fr.guard,Fr.convBytes]
theorem Fr.partV (t:TypeId)(cs:List Value)(off:Nat):Fr (partV T t cs off):=Fr.ti T _ λ_=>by grind[Fr.pure,Fr.obind]
theorem Fr.binV (op:BinOp)(t:TypeId)(x y:Operand)(a b:Value):Fr (a9H p T op t x y a b):=by grind[V.a9H,Fr.pure,Fr.guard,Fr.pureV]
theorem Fr.nextAt (b:Nat)(s:ByteArray)(pos:Nat):Fr (b3k b s pos):=by grind[V.b3k,Fr.fNat,Fr.bind,Fr.wr,Fr.pure]
theorem Fr.opBuiltin (fr:List Value)(b:Builtin)(args:Array Operand)(ts:Array TypeId):Fr (a0J p T fr b args ts):=Fr.evs T _ _ λ_=>by grind[Fr.guard,Fr.appendV,Fr.obind,Fr.ti,Fr.lenV,Fr.pureV,Fr.fail]
theorem Fr.simpleOp (fr:List Value)(o:Op):Fr (O4 p T fr o):=by unfold V.O4;split;exact Fr.lift _;exact Fr.lift _;refine Fr.ev T _ _ λ_=>Fr.ev T _ _ λ_=>Fr.ev T _ _ λ_=>?_;grind[Fr.pure,Fr.fail];exact Fr.ti T _ λ_=>Fr.guard _ (Fr.bind (Fr.newCells _) λ_=>Fr.pure _);exact Fr.ev T _ _ λ_=>Fr.guard _ (Fr.bind (Fr.newCells _) λ_=>Fr.pure _);refine Fr.evs T _ _ λ_=>Fr.ti T _ λ_=>Fr.guard _ ?_;grind[Fr.guard,Fr.obind,Fr.pure,Fr.ti,Fr.fail];refine Fr.evs T _ _ λ_=>Fr.ti T _ λ_=>?_;grind[Fr.ti,Fr.guard,Fr.obind,Fr.bind,Fr.newCells,Fr.pure,Fr.fail];exact Fr.ev T _ _ λ_=>Fr.asPtr _ λ_=>Fr.loadV T _ _;exact Fr.ev T _ _ λ_=>Fr.ev T _ _ λ_=>Fr.asPtr _ λ_=>Fr.bind (Fr.storeV T _ _ _) λ_=>Fr.pure _;refine Fr.ev T _ _ λ_=>?_;grind[Fr.guard,Fr.pure,Fr.fail];refine Fr.ev T _ _ λ_=>Fr.ev T _ _ λ_=>?_;grind[Fr.pure,Fr.binV,Fr.fail,Fr.lift];exact Fr.ev T _ _ λ_=>Fr.guard _ (Fr.pureV _);exact Fr.ev T _ _ λ_=>Fr.convertV T _ _ _;exact Fr.ev T _ _ λ_=>Fr.ti T _ λ_=>Fr.guard _ (Fr.pure _);exact Fr.evs T _ _ λ_=>Fr.evs T _ _ λ_=>Fr.pure _;unfold V.b2E;grind[Fr.bind,Fr.new,Fr.pure,Fr.ev,Fr.ti,Fr.guard];exact Fr.ev T _ _ λ_=>Fr.ev T _ _ λ_=>Fr.makeSliceV T _ _ _;exact Fr.evs T _ _ λ_=>Fr.evs T _ _ λ_=>Fr.evs T _ _ λ_=>Fr.ev T _ _ λ_=>Fr.sliceV T _ _ _ _ _;exact Fr.ev T _ _ λ_=>Fr.fieldAddrV T _ _ _;refine Fr.ev T _ _ λ_=>Fr.ti T _ λ_=>?_;grind[Fr.obind,Fr.partV,Fr.fail];exact Fr.ev T _ _ λ_=>Fr.ev T _ _ λ_=>Fr.indexAddrV T _ _ _;refine Fr.ev T _ _ λ_=>Fr.ev T _ _ λ_=>Fr.obind _ λ_=>Fr.ti T _ λ_=>?_;grind[Fr.obind,Fr.pure,Fr.fail,Fr.ti,Fr.guard,Fr.partV];exact Fr.ev T _ _ λ_=>Fr.ev T _ _ λ_=>Fr.lookupV T _ _ _ _;exact Fr.ev T _ _ λ_=>Fr.ev T _ _ λ_=>Fr.ev T _ _ λ_=>Fr.bind (Fr.mapUpdateV T _ _ _ _) λ_=>Fr.pure _;exact Fr.ev T _ _ λ_=>Fr.ev T _ _ λ_=>Fr.ev T _ _ λ_=>Fr.bind (Fr.mapUpdateV T _ _ _ _) λ_=>Fr.pure _;refine Fr.ev T _ _ λ_=>Fr.ti T _ λ_=>?_;grind[Fr.bind,Fr.new,Fr.pure,Fr.fail];refine Fr.guard _ (Fr.ev T _ _ λ_=>Fr.asPtr _ λ_=>Fr.guard _ (Fr.bind (Fr.rd _) λ_=>?_));grind[Fr.nextAt,Fr.fail];refine Fr.ev T _ _ λ_=>?_;grind[Fr.obind,Fr.pure,Fr.fail];exact Fr.fail
theorem Fr.stepOp {call:Nat->List Value->M Value}(hc:∀f vs,Fr (call f vs))(fr:List Value)(o:Op):Fr (Z4 p T call fr o):=by unfold V.Z4;split;unfold V.b1p;split;refine Fr.ev T _ _ λ_=>Fr.evs T _ _ λ_=>?_;grind[Fr.fail];grind[Fr.opBuiltin];exact Fr.fail;grind[Fr.simpleOp]
theorem Fr.resultsV (fr:List Value)(rs:List ResultVar):Fr (a3Q T fr rs):=by induction rs with|nil=>exact Fr.pure _|cons r rs ih=>cases r with|tmp t=>exact Fr.bind ih λ_=>Fr.pure _|cell a t=>exact Fr.asPtr _ λ_=>Fr.bind (Fr.loadV T _ _) λ_=>Fr.bind ih λ_=>Fr.pure _
theorem b1k (call ops o os fr):a6d p T call ops (o::os) fr=if a1Y ops fr o then M.bind (Z4 p T call fr o.op) λv=>a6d p T call ops os (Q3 fr o v)else a6d p T call ops os (Q3 fr o undef):=by show(match a1Y ops fr o with|true=>M.bind (Z4 p T call fr o.op) λv=>a8s v λv=>a6d p T call ops os (Q3 fr o v)|false=>a6d p T call ops os (Q3 fr o undef))=_;grind[a8A]
theorem Fr.runOps {call:Nat->List Value->M Value}(hc:∀f vs,Fr (call f vs))(ops os:List Oper):∀fr,Fr (a6d p T call ops os fr):=by induction os with|nil=>intro fr;exact Fr.pure _|cons o os ih=>grind[b1k,Fr.bind,Fr.stepOp]
theorem Fr.foot {α}{m:M α}(hm:Fr m):Fr (M.foot m):=by intro s x s' h;unfold M.foot at h;cases e:m ⟨s.c,s.h,[],[]⟩with|none=>rw[e]at h;cases h|some y=>obtain⟨a,s1⟩:=y;rw[e]at h;simp only[E9]at h;cases h;obtain⟨dr,dw,e1,e2,e3,e4,e5,e6,e7,e8⟩:=hm _ _ _ e;simp only[wF]at e1 e2;refine⟨dr,dw,by rw[e1],by rw[e2],e3,e4,e5,e6,e7,λh2 r2 w2 hag=>?_⟩;obtain⟨h2',q1,q2,q3⟩:=e8 h2 [] [] hag;simp_all[M.foot,E9]
theorem a7L (call ops o os fr):a2t p T call ops (o::os) fr=if a1Y ops fr o then M.bind (M.foot (Z4 p T call fr o.op)) (λx=>M.bind (a2t p T call ops os (Q3 fr o x.1)) λy=>M.pure (y.1,x.2::y.2))else M.bind (a2t p T call ops os (Q3 fr o undef)) λy=>M.pure (y.1,([],[])::y.2):=by show(match a1Y ops fr o with|true=>M.bind (M.foot (Z4 p T call fr o.op)) λx=>a8s x.1 λv=>M.bind (a2t p T call ops os (Q3 fr o v)) λy=>M.pure (y.1,x.2::y.2)|false=>M.bind (a2t p T call ops os (Q3 fr o undef)) λy=>M.pure (y.1,([],[])::y.2))=_;grind[a8A]
theorem Fr.runD {call:Nat->List Value->M Value}(hc:∀f vs,Fr (call f vs))(ops os:List Oper):∀fr,Fr (a2t p T call ops os fr):=by induction os with|nil=>intro fr;exact Fr.pure _|cons o os ih=>grind[a7L,Fr.bind,Fr.foot,Fr.stepOp,Fr.pure]
theorem Fr.region {call:Nat->List Value->M Value}(hc:∀f vs,Fr (call f vs))(ops:List Oper)(draw:Bool)(fr:List Value):Fr (region p T call ops draw fr):=by unfold V.region;grind[Fr.bind,Fr.runOps,Fr.pure,Fr.runD,Fr.guard]
theorem Fr.exec {call:Nat->List Value->M Value}(hc:∀f vs,Fr (call f vs))(n:Nat):∀c fr,Fr (a6W p T call n c fr):=by induction n with|zero=>intro c fr;exact Fr.fail|succ n ih=>intro c fr;show Fr (c7P p T call (V.a6W p T call n) c fr);unfold V.c7P;grind[Fr.pure,Fr.region,Fr.bind,Fr.obind,Fr.fail,Fr.fList]
theorem Fr.externV (f:Nat)(vs:List Value):Fr (b7O p f vs):=Fr.guard _ (Fr.obind _ λ_=>Fr.obind _ λ_=>Fr.guard _ (Fr.pure _))
theorem Fr.callV {ext:Nat->Option (List Value->M Value)}(he:∀f g,ext f=some g->∀vs,Fr (g vs))(n:Nat):∀f vs,Fr (a7o p T ext n f vs):=by induction n with|zero=>intro f vs;exact Fr.fail|succ n ih=>intro f vs;show Fr (match ext f with|some g=>g vs|none=>M.obind (T.funcs.get f) λfn=>enter p T (V.a7o p T ext n) n fn f vs);split;rename_i g hg;exact he f g hg vs;refine Fr.obind _ λfn=>?_;grind[V.enter,Fr.externV,Fr.bind,Fr.exec,V.b1P,Fr.fail,Fr.resultsV,Fr.pure]
end
end Go.V
end
section
namespace Go.V
open Go.RowKit (Below)
structure Loc where
 blk:Nat
 lo:Nat
 at_:Nat
 sz:Nat
 own:Bool
abbrev KM:=Nat->Nat->Option Loc
def KM.le (K K':KM):Prop:=∀b g l,K b g=some l->K' b g=some l
theorem KM.le_refl (K:KM):K.le K:=λ_ _ _ h=>h
theorem KM.le_trans {K K' K'':KM}(h:K.le K')(h':K'.le K''):K.le K'':=λb g l e=>h' b g l (h b g l e)
inductive VR (K:KM):Value→Value→Prop
 | plain {v:Value}:plain v=true→VR K v v
 | ptr {b g off:Nat} {l:Loc}:K b g=some l→l.lo≤off→VR K (.pointer (some ⟨l.blk,l.at_+(off - l.lo),none⟩)) (.pointer (some ⟨b,off,some g⟩))
 | slice {b g off len cap es:Nat} {l:Loc} {a':Addr}:K b g=some l→l.lo≤off→0<es→len≤cap→(cap=0∨a'.spot=none) →
  (cap=0∨(a'.block=l.blk∧a'.off=l.at_+(off - l.lo)∧(l.own=true→a'.off+cap * es≤l.sz))) →
  VR K (.slice (some a') len cap) (.slice (some ⟨b,off,some g⟩) len es)
 | map {b:Nat} {l:Loc}:K b 0=some l→VR K (.map (some l.blk)) (.map (some b))
 | agg {cs' cs:Array Value}:cs'.toList.length=cs.toList.length→(∀ (i:Nat) (v' v:Value),cs'.toList[i]?=some v'→cs.toList[i]?=some v→VR K v' v)→VR K (.agg cs') (.agg cs)
 | tuple {cs' cs:Array Value}:cs'.toList.length=cs.toList.length→(∀ (i:Nat) (v' v:Value),cs'.toList[i]?=some v'→cs.toList[i]?=some v→VR K v' v)→VR K (.tuple cs') (.tuple cs)
 | func {fn:Fn} {a' a b' b:Array Value}:a'.toList.length=a.toList.length→(∀ (i:Nat) (v' v:Value),a'.toList[i]?=some v'→a.toList[i]?=some v→VR K v' v) →
  b'.toList.length=b.toList.length→(∀ (i:Nat) (v' v:Value),b'.toList[i]?=some v'→b.toList[i]?=some v→VR K v' v)→VR K (.func fn a' b') (.func fn a b)
 | iface {t:TypeId} {v' v:Value}:VR K v' v→VR K (.iface t v') (.iface t v)
structure VRL (K:KM) (l' l:List Value):Prop where
 len:l'.length=l.length
 at_:∀ (i:Nat) (v' v:Value),l'[i]?=some v'→l[i]?=some v→VR K v' v
theorem VR.mono {K K'}(h:K.le K'){v' v}(r:VR K v' v):VR K' v' v:=by induction r with|plain h=>exact .plain h|ptr hk hl=>exact .ptr (h _ _ _ hk) hl|slice hk h1 h2 h3 h4 h5=>exact .slice (h _ _ _ hk) h1 h2 h3 h4 h5|map hk=>exact .map (h _ _ _ hk)|agg hl _ ih=>exact .agg hl ih|tuple hl _ ih=>exact .tuple hl ih|func hl _ hl' _ ih ih'=>exact .func hl ih hl' ih'|iface _ ih=>exact .iface ih
theorem VRL.mono {K K'}(h:K.le K'){l' l}(r:VRL K l' l):VRL K' l' l:=⟨r.len,λi v' v e e'=>(r.at_ i v' v e e').mono h⟩
theorem VRL.nil (K):VRL K [] []:=⟨rfl,λi v' v h=>by simp at h⟩
theorem VRL.cons {K v' v l' l}(h:VR K v' v)(r:VRL K l' l):VRL K (v'::l') (v::l):=⟨by simp[r.len],λi x' x e e'=>by cases i with|zero=>simp_all|succ i=>exact r.at_ i x' x zo zo⟩
theorem VRL.head {K v' v l' l}(r:VRL K (v'::l') (v::l)):VR K v' v:=r.at_ 0 v' v rfl rfl
theorem VRL.tail {K v' v l' l}(r:VRL K (v'::l') (v::l)):VRL K l' l:=⟨by simpa using r.len,λi x' x e e'=>r.at_ (i+1) x' x zo zo⟩
theorem VRL.append {K a' a b' b}(h:VRL K a' a)(r:VRL K b' b):VRL K (a'++b') (a++b):=⟨by simp[h.len,r.len],λi v' v e e'=>by by_cases hi:i<a.length;rw[vQ (by rw[h.len];exact hi)]at e;rw[vQ hi]at e';exact h.at_ i v' v e e';rw[vV (by rw[h.len];omega)]at e;rw[vV zy]at e';rw[h.len]at e;exact r.at_ _ v' v e e'⟩
theorem VRL.take {K a' a}(h:VRL K a' a)(n):VRL K (a'.take n) (a.take n):=⟨by simp[h.len],λi v' v e e'=>by rw[tJ]at e e';split at e;rename_i hi;rw[vG hi]at e';exact h.at_ i v' v e e';cases e⟩
theorem VRL.drop {K a' a}(h:VRL K a' a)(n):VRL K (a'.drop n) (a.drop n):=⟨by simp[h.len],λi v' v e e'=>by rw[uG]at e e';exact h.at_ _ v' v e e'⟩
theorem VRL.refl_plain {K}(l)(h:∀v∈l,V.plain v=true):VRL K l l:=⟨rfl,λi v' v e e'=>by rw[e]at e';cases e';exact .plain (h _ (vT e))⟩
theorem VR.undef (K:KM):VR K undef undef:=.tuple rfl λi v' v h=>by simp at h
theorem a4n (l i):D5 l i=(l[i]?).getD Go.undef:=by induction l generalizing i with|nil=>rfl|cons v l ih=>cases i with|zero=>rfl|succ i=>exact ih i
theorem VRL.lget {K:KM}{l' l:List Value}(h:VRL K l' l)(i:Nat):VR K (D5 l' i) (D5 l i):=by
 rw[a4n,a4n];by_cases hi:i<l.length;have hi':i<l'.length:=by rw[h.len];exact hi
 rw[wO hi,wO hi'];exact h.at_ i _ _ (wO hi') (wO hi);have e1:l[i]?=none:=vg zy;have e2:l'[i]?=none:=vg (by rw[h.len];omega);rw[e1,e2];exact VR.undef K
theorem b0f (l i x):a4W l i x=l.set i x:=by induction l generalizing i with|nil=>simp[a4W]|cons v l ih=>cases i with|zero=>rfl|succ i=>simp_all[a4W]
theorem VRL.lset {K:KM}{l' l:List Value}(h:VRL K l' l)(i:Nat){x' x:Value}(hx:VR K x' x):VRL K (l'.set i x') (a4W l i x):=by rw[b0f];refine⟨by simp[h.len],λj v' v e e'=>?_⟩;rw[qZ]at e e';split at e;simp_all;rename_i hij;rw[vN hij]at e';exact h.at_ j v' v e e'
theorem VR.oneCell {K:KM}{v' v:Value}(h:VR K v' v)(h1:N8 v=true):v'.oneCell'=true:=by
 cases h with
  |plain hp=>cases v'<;>first|rfl|exact absurd h1 (by simp[V.N8])
  |agg _ _=>grind[V.N8]|tuple _ _=>grind[V.N8]|_=>rfl
structure MR (K:KM) (es':List MapEntry) (es:List (Value×Value)):Prop where
 len:es'.length=es.length
 key:∀ (i:Nat) (e':MapEntry) (e:Value×Value),es'[i]?=some e'→es[i]?=some e→e'.key=e.1∧VR K e'.val e.2
structure Base where
 w:World
 R:Nat→Prop
structure Sim (B0:Nat) (w0:Base) (K:KM) (h:Trie VObj) (w:World):Prop where
 size0:B0≤w0.w.heap.size∧∀ k,B0≤k→w0.R k
 below:Below B0 w0.w w
 dom':∀ b g l,K b g=some l→l.blk<w.heap.size∧w0.R l.blk
 dom2:∀ b g l,K b g=some l→∃ o,h.get b=some o
 own:∀ b g l,K b g=some l→l.own=true→B0≤l.blk
 apart:∀ b g l b' g' l',K b g=some l→K b' g'=some l'→b≠b'→l.own=true→l.blk≠l'.blk
 same:∀ b g l g' l',K b g=some l→K b g'=some l'→l.own=l'.own∧(l.blk=l'.blk→l.at_+l'.lo=l'.at_+l.lo)
 room:∀ b g l cs cur ro,K b g=some l→l.own=true→h.get b=some (.cells cs cur ro)→∃ c e fz,w.heap[l.blk]?=some (.cells c e fz)∧c.size=l.sz∧∀ o,o<l.sz→w.frozen? ⟨l.blk,o,none⟩=false
 gens:∀ b cs cur ro,h.get b=some (.cells cs cur ro)→(∀ g l,K b g=some l→g≤cur∧(ro=false→l.own=true))∧(∀ g,g≤cur→∃ l,K b g=some l)∧∀ c,c∈cs→c.2≤cur
 cells:∀ b cs cur ro g l,h.get b=some (.cells cs cur ro)→K b g=some l→∀ (off:Nat) v st,cs[off]?=some (v,st)→st≤g→l.lo≤off →
  ∃ v',w.cell? ⟨l.blk,l.at_+(off - l.lo),none⟩=some v'∧VR K v' v
 map:∀ b es,h.get b=some (.map es)→∃ l es' clock,K b 0=some l∧l.own=true∧w.heap[l.blk]?=some (.map es' clock)∧MR K es'.toList es
 siter:∀ b s pos,h.get b=some (.siter s pos)→∃ l,K b 0=some l∧l.own=true∧l.lo=0∧l.at_=0∧w.heap[l.blk]?=some (.stringIter s pos)
 gen0:∀ b g l,K b g=some l→(∀ cs cur ro,h.get b≠some (.cells cs cur ro))→g=0
theorem Sim.dom {B0 w0 K h w}(S:Sim B0 w0 K h w):∀b g l,K b g=some l->l.blk<w.heap.size:=λb g l q=>(S.dom' b g l q).1
theorem a6H (g):∀(cs) (n) (vs),q9 g cs n=some vs->vs.length=n/\∀i,i<n->∃v st,cs[i]?=some (v,st)/\st<=g/\vs[i]?=some v:=by
 intro cs;induction cs with
  |nil=>intro n vs h;cases n with|zero=>cases h;simp|succ n=>cases h
  |cons c cs ih=>
   intro n vs h;cases n with
    |zero=>cases h;simp|succ n=>
     have h':(match Nat.ble c.2 g with|true=>(match q9 g cs n with|some vs=>some (c.1::vs)|none=>none)|false=>none)=some vs:=h;split at h';rename_i hb;split at h';rename_i vs' hvs;cases h';obtain⟨h1,h2⟩:=ih n vs' hvs;refine⟨by simp[h1],λi hi=>?_⟩;cases i with|zero=>exact⟨c.1,c.2,rfl,vU hb,rfl⟩|succ i=>simp_all
     cases h';cases h'
theorem a9u (b o n):(⟨b,o,none⟩:Addr).add n=⟨b,o+n,none⟩:=by grind[Addr.add]
theorem a9l {a n s s' vs}(h:loadN a n s=some (vs,s')):∃g cs cur ro,a.spot=some g/\s.h.get a.block=some (.cells cs cur ro)/\q9 g (cs.drop a.off) n=some vs/\s'.c=s.c/\s'.h=s.h:=by unfold loadN at h;cases hg:a.spot with|none=>rw[hg]at h;cases h|some g=>rw[hg]at h;simp only[M.obind,M.bind,rd]at h;cases hb:Nat.blt a.block s.c with|false=>rw[hb]at h;cases h|true=>rw[hb]at h;cases ho:s.h.get a.block with|none=>rw[ho]at h;cases h|some o=>rw[ho]at h;cases o with|cells cs cur ro=>simp only[a7M,M.lift,a0z]at h;grind|map es=>cases h|siter x y=>cases h
theorem a9j {B0 w0 K h w}(S:Sim B0 w0 K h w){b g off n l cs cur ro vs}(hk:K b g=some l)(hlo:l.lo<=off)(ho:h.get b=some (.cells cs cur ro))(ht:q9 g (cs.drop off) n=some vs):∃vs',VRL K vs' vs/\vs.length=n/\∀(j) v',vs'[j]?=some v'->w.cell? ⟨l.blk,l.at_+(off-l.lo)+j,none⟩=some v':=by
 obtain⟨h1,h2⟩:=a6H g _ n vs ht;have h3:∀i,∃v',i<n->w.cell? ⟨l.blk,l.at_+(off-l.lo)+i,none⟩=some v'/\∀v,vs[i]?=some v->VR K v' v:=by intro i;by_cases hi:i<n;obtain⟨v,st,e1,e2,e3⟩:=h2 i hi;rw[uG]at e1;obtain⟨v',c1,c2⟩:=S.cells b cs cur ro g l ho hk (off+i) v st e1 e2 zy;grind;exact⟨undef,λh=>absurd h hi⟩
 refine⟨(List.range n).map λi=>Classical.choose (h3 i),⟨by simp[h1],λi v' v e e'=>?_⟩,h1,λj v' e=>?_⟩;have hi:i<n:=by have:=(wM.1 e).1;simp_all
 rw[vW,List.getElem?_range hi]at e;grind;grind
theorem b3l {P B0 w0 K w a n s s' vs}(h:loadN a n s=some (vs,s'))(S:Sim B0 w0 K s.h w){a'}(r:VR K (.pointer (some a')) (.pointer (some a))):∃vs',(loadCells a' n).run P w=.ok vs'.toArray w/\VRL K vs' vs/\vs'.length=n/\s'.c=s.c/\s'.h=s.h:=by
 obtain⟨g,cs,cur,ro,e1,e2,e3,e4,e5⟩:=a9l h;generalize hv:Value.pointer (some a)=v at r;generalize hv':Value.pointer (some a')=v' at r;cases r with
  |plain hp=>grind[V.plain]|ptr hk hlo=>
   cases hv;cases hv';cases e1;obtain⟨vs',c1,c2,c3⟩:=a9j S hk hlo e2 e3;have hn:vs'.length=n:=by rw[c1.len,c2]
   grind[run_loadCells_list,a9u]|_=>cases hv
end Go.V
end
