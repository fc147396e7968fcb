import Derived.Test.YtmomonnlmbljoaaGreatDoorProg
import Derived.Laws.Cells
import Derived.Below
import Derived.Laws.AppendOwn
import Derived.Laws.Tables
import Derived.Great.BuildSlice
import Derived.Lib.IndexBytes
import Derived.Laws.BytesString
import Derived.Orders
import Derived.LoopN
import Derived.RangeFuncKeeps
import Derived.Lib.Fields
import Derived.KernelRfl
import Derived.Laws.StructEq
import Derived.Lib.IndexMore
import Derived.Lib.Join
import Derived.Lib.Repeat
import Derived.Shelf.LaysM
import Derived.Shelf.Strings.Fields
import Derived.Shelf.Strings.OnBuilder
import Derived.Shelf.Strings.Repeat
import Derived.Shelf.Strings.Search3
import Derived.Shelf.Spec.BitsCarry
import Derived.Shelf.Strconv.Itoa4
import Derived.Ground.NamesProg
import Derived.RangeFuncWrites
import Derived.RangeFuncLeaves
import Derived.Shelf.Abstract
import Derived.WalkKit
import Derived.OwnWalkIn
import Derived.TacticsInMore
import Derived.Shelf.Bits.Mul64
import Derived.Lib.AppendIntMem
import Derived.Lib.ItoaNum
import Derived.ProofKit
import Derived.Deep.Slices
import Derived.OpenShut
import Derived.Handed
import Derived.HandedShaped
import Derived.LaidLaws
import Derived.Lay
import Derived.JoinedOf
import Derived.SevenTiedAt
import GoSem.Step
set_option maxRecDepth 1000000
set_option maxHeartbeats 4000000
set_option linter.unusedVariables false
set_option linter.unusedSimpArgs false
namespace Go
abbrev wR:=@Nat.eq_of_beq_eq_true
abbrev wQ:=@Nat.le_refl
abbrev wP:=@decide_eq_false
abbrev wO:=@List.getElem?_eq_getElem
abbrev wM:=@List.getElem?_eq_some_iff
abbrev wL:=@decide_eq_true
abbrev wK:=@Bool.and_eq_true
abbrev wJ:=@Eq.trans
abbrev wI:=@List.length_cons
abbrev wH:=@List.append_nil
abbrev wG:=@List.length_append
abbrev wF:=@List.length_map
abbrev wE:=@Nat.lt_succ_self
abbrev wD:=@Nat.lt_of_lt_of_le
abbrev wC:=@Go.Result.andThen_ok
abbrev wB:=@congrArg
abbrev vz:=@Int.ofNat_eq_natCast
abbrev vw:=@List.append_assoc
abbrev vv:=@Nat.le_succ
abbrev vo:=@List.getElem?_eq_none
abbrev vg:=@Go.Sem.run_bind
abbrev vZ:=@decide_eq_true_eq
abbrev vY:=@Nat.add_right_comm
abbrev vX:=@decide_eq_false_iff_not
abbrev vW:=@List.mem_singleton
abbrev vV:=@Nat.zero_add
abbrev vU:=@List.flatMap_cons
abbrev vT:=@Nat.le_of_ble_eq_true
abbrev vS:=@of_decide_eq_true
abbrev vR:=@List.nil_append
abbrev vQ:=@Nat.le_trans
abbrev vP:=@List.mem_of_getElem?
abbrev vN:=@if_neg
abbrev vM:=@List.getElem?_map
abbrev vK:=@Go.Sem.run_pure
abbrev vJ:=@Bool.false_or
abbrev vI:=@List.mem_cons_of_mem
abbrev vH:=@if_pos
abbrev vG:=@List.getElem?_append_right
abbrev vF:=@List.getElem?_append_left
abbrev vE:=@List.length_nil
abbrev vD:=@List.cons_append
abbrev vC:=@Nat.zero_le
abbrev vB:=@Nat.add_zero
abbrev uz:=@List.length_eq_zero_iff
abbrev uy:=@List.map_cons
abbrev uw:=@List.mem_cons
abbrev uu:=@Nat.mul_one
abbrev ut:=@List.mem_append
abbrev uq:=@List.length_drop
abbrev uo:=@Bool.false_eq_true
abbrev um:=@List.mem_cons_self
abbrev ul:=@List.map_append
abbrev uk:=@Int.ofNat_lt
abbrev uj:=@List.ext_getElem?
abbrev ui:=@Nat.lt_or_ge
abbrev uh:=@Nat.blt_eq
abbrev ug:=@Bool.not_false
abbrev uf:=@Bool.and_self
abbrev uZ:=@Nat.lt_irrefl
abbrev uY:=@Bool.true_or
abbrev uX:=@Go.Proofs.Tryz.underlying3
abbrev uW:=@List.length_reverse
abbrev uV:=@Array.length_toList
abbrev uU:=@Bool.false_and
abbrev uT:=@List.getElem?_drop
abbrev uS:=@List.mem_map
abbrev uR:=@Nat.lt_of_le_of_lt
abbrev uQ:=@of_decide_eq_false
abbrev uP:=@List.getElem_mem
abbrev uO:=@Go.Proofs.Tryz.underlying5
abbrev uM:=@List.flatMap_append
abbrev uL:=@Bool.true_and
abbrev uK:=@Nat.add_sub_cancel_left
abbrev uJ:=@Go.Proofs.Tryz.underlying9
abbrev uI:=@List.mem_range
abbrev uH:=@Go.World.cell?_setCell_same'
abbrev uG:=@Nat.ble_eq_true_of_le
abbrev uF:=@Nat.mod_eq_of_lt
abbrev uE:=@decide_true
abbrev uD:=@Bool.and_false
abbrev uC:=@List.drop_zero
abbrev tq:=@List.getElem?_cons_succ
abbrev tZ:=@Bool.not_eq_true'
abbrev tY:=@Go.cell_kept
abbrev tX:=@Option.some.inj
abbrev tV:=@decide_false
abbrev tT:=@Nat.zero_mul
abbrev tQ:=@List.drop_of_length_le
abbrev tO:=@if_false
abbrev tN:=@List.length_take
abbrev tL:=@List.getElem?_take
abbrev tK:=@List.drop_eq_getElem_cons
abbrev tJ:=@Nat.add_mul
abbrev tH:=@Option.isSome_iff_exists
abbrev tF:=@Go.World.cell?_of_block
abbrev tC:=@List.map_map
abbrev sw:=@Nat.lt_trans
abbrev sj:=@Bool.and_true
abbrev si:=@Bool.not_true
abbrev sZ:=@Int.ofNat.inj
abbrev sW:=@Go.KeepsOthers.setCell
abbrev sV:=@Go.Proofs.Tryz.underlying4
abbrev sU:=@Nat.and_le_right
abbrev sS:=@Go.DataW.trod_int
abbrev sQ:=@List.flatMap_singleton
abbrev sP:=@List.take_of_length_le
abbrev sO:=@Go.Proofs.Tryz.underlying145
abbrev sN:=@List.mem_iff_getElem?
abbrev sM:=@Go.Proofs.Tryz.zeroValue5
abbrev sK:=@Bool.or_eq_true
abbrev sJ:=@Nat.add_assoc
abbrev sI:=@List.size_toArray
abbrev sH:=@Go.Proofs.Tryz.zeroValue145
abbrev sG:=@Go.Proofs.Tryz.underlying23
abbrev sF:=@Array.getElem?_eq_getElem
abbrev sD:=@Bool.or_eq_false_iff
abbrev rz:=@List.length_dropLast
abbrev ru:=@Nat.pow_add
abbrev rq:=@List.all_eq_true
abbrev rZ:=@Nat.mul_zero
abbrev rY:=@Int.ofNat_le
abbrev rX:=@Array.toList_append
abbrev rW:=@Nat.eq_zero_or_pos
abbrev rV:=@Go.RowKit.Below.refl
abbrev rU:=@Go.Proofs.Tryz.zeroValue3
abbrev rT:=@Go.Proofs.Tryz.zeroValue4
abbrev rR:=@Go.Proofs.Tryz.zeroValue9
abbrev rQ:=@Go.Proofs.Tryz.underlying194
abbrev rP:=@Go.Proofs.Tryz.underlying149
abbrev rO:=@Go.grownBy_putObj'
abbrev rM:=@Array.toList_replicate
abbrev rJ:=@Nat.ne_of_beq_eq_false
abbrev rH:=@List.eq_nil_of_length_eq_zero
abbrev rG:=@Go.Proofs.Tryz.zeroValue194
abbrev rF:=@Array.getElem?_modify
abbrev rD:=@Go.Proofs.Tryz.sizeOf5
abbrev rA:=@Go.Proofs.Tryz.sizeOf145
abbrev qz:=@Nat.succ_pos
abbrev qy:=@List.singleton_append
abbrev qx:=@Array.getD_eq_getD_getElem?
abbrev qw:=@Go.Proofs.Tryz.underlying0
abbrev qo:=@Array.size_replicate
abbrev qm:=@decide_eq_decide
abbrev ql:=@Array.getElem?_eq_some_iff
abbrev qj:=@Go.Proofs.Tryz.isAgg145
abbrev qh:=@List.all_cons
abbrev qg:=@Go.Proofs.Tryz.isAgg5
abbrev qf:=@Go.Proofs.Tryz.zeroValue0
abbrev qc:=@List.getElem?_eq_none_iff
abbrev qb:=@Nat.sub_zero
abbrev qZ:=@Go.Proofs.Tryz.sizeOf3
abbrev qY:=@Go.Proofs.Tryz.sizeOf4
abbrev qX:=@Go.Proofs.Tryz.sizeOf9
abbrev qW:=@Go.Proofs.Tryz.underlying222
abbrev qV:=@List.map_nil
abbrev qU:=@Go.Proofs.Tryz.sizeOf194
abbrev qR:=@List.reverse_cons
abbrev qQ:=@List.getElem?_set
abbrev qP:=@Go.Proofs.Tryz.underlying20
abbrev qO:=@Go.Proofs.Tryz.zeroValue149
abbrev qN:=@Nat.lt_succ_of_lt
abbrev qM:=@Go.World.frozen?_of_block
abbrev qL:=@List.drop_eq_nil_of_le
abbrev qK:=@Go.Proofs.Tryz.isAgg3
abbrev qJ:=@Go.Proofs.Tryz.isAgg4
abbrev qI:=@Go.Proofs.Tryz.isAgg9
abbrev qH:=@Go.Proofs.Tryz.isAgg194
abbrev qG:=@Nat.le_add_right
abbrev qF:=@List.range'_succ
abbrev qE:=@Array.all_eq_true_iff_forall_mem
abbrev qD:=@Go.Proofs.Tryz.zeroValue20
abbrev qC:=@Go.Proofs.Tryz.zeroValue23
abbrev qB:=@Go.run_takeDeferred
abbrev qA:=@Array.getElem?_toList
abbrev pz:=@if_true
abbrev pq:=@List.dropLast_eq_take
abbrev pg:=@Bool.or_self
abbrev pY:=@List.drop_eq_nil_iff
abbrev pX:=@Option.map_some
abbrev pW:=@List.range_eq_range'
abbrev pV:=@Go.callsIn_wide
abbrev pU:=@Go.Proofs.Tryz.sizeOf0
abbrev pR:=@Array.replicate_succ
abbrev pQ:=@Array.replicate_zero
abbrev pO:=@Nat.and_two_pow_sub_one_eq_mod
abbrev pM:=@Nat.pow_le_pow_right
abbrev pJ:=@List.dropLast_append_of_ne_nil
abbrev pI:=@List.getElem?_mapIdx
abbrev pG:=@List.take_append_of_le_length
abbrev pF:=@List.getElem_of_mem
abbrev pE:=@Nat.add_sub_cancel'
abbrev oz:=@List.append_toArray
abbrev ow:=@Ne.symm
abbrev ou:=@Array.getElem?_setIfInBounds
abbrev oq:=@List.drop_drop
abbrev om:=@Go.Proofs.Tryz.sizeOf149
abbrev ol:=@Nat.le_zero
abbrev oh:=@Go.Proofs.Tryz.isAgg0
abbrev og:=@List.find?_eq_none
abbrev oZ:=@Go.run_loadCells_list
abbrev oW:=@Go.Proofs.Tryz.underlying250
abbrev oV:=@Go.Proofs.Tryz.underlying271
abbrev oU:=@Go.Proofs.Tryz.underlying253
abbrev oQ:=@Nat.add_sub_cancel
abbrev oP:=@Nat.eq_of_mul_eq_mul_right
abbrev oO:=@Go.Proofs.Tryz.sizeOf20
abbrev oN:=@Go.Proofs.Tryz.isAgg149
abbrev oM:=@Go.Proofs.Tryz.sizeOf23
abbrev oL:=@Go.ownFrom_below
abbrev oK:=@Nat.lt_trichotomy
abbrev oJ:=@List.push_toArray
abbrev oI:=@Go.World.cell?_setCell_other
abbrev oH:=@Array.ext'
abbrev oG:=@Array.getElem?_push_size
abbrev oF:=@Nat.le_of_not_lt
abbrev oD:=@Go.Proofs.Tryz.isAgg20
abbrev oC:=@Go.Proofs.Tryz.isAgg23
abbrev nz:=@Bool.or_true
abbrev ny:=@List.not_mem_nil
abbrev nu:=@List.getElem?_cons_zero
abbrev nk:=@UInt8.toNat_inj
abbrev ni:=@Go.Oper.semAt_none
abbrev nZ:=@Nat.div_le_self
abbrev nY:=@Nat.min_eq_left
abbrev nX:=@Go.Proofs.enters_of
abbrev nW:=@List.find?_cons
abbrev nV:=@Nat.div_one
abbrev nU:=@Go.frozen_kept
abbrev nS:=@Go.OwnFrom.and
abbrev nR:=@Go.wp_loop_rounds
abbrev nQ:=@Go.run_newObj
abbrev nP:=@Nat.mod_lt
abbrev nN:=@Go.wp_cond_false
abbrev nM:=@List.map_take
theorem zy{p:Prop}(h:p:=by omega):p:=h
theorem zw{p:Prop}(h:p:=by kernel_rfl):p:=h
theorem zu{p:Prop}(h:p:=by decide):p:=h
theorem zq{p:Prop}(h:p:=by simp):p:=h
theorem zo{p:Prop}(h:p:=by grind):p:=h
theorem zn{p:Prop}(h:p:=by simp_all):p:=h
theorem zm{p:Prop}(h:p:=by simp;omega):p:=h
theorem zl{p:Prop}(h:p:=by intro q;cases q):p:=h
theorem zk{p:Prop}(h:p:=by cases e):p:=h
theorem zi{p:Prop}(h:p:=by cases b<;>rfl):p:=h
theorem zg{p:Prop}(h:p:=by cases h):p:=h
theorem ze{p:Prop}(h:p:=by cases q):p:=h
theorem zb{p:Prop}(h:p:=by cases e;rfl):p:=h
theorem za{p:Prop}(h:p:=by simpa using hi):p:=h
theorem zZ{p:Prop}(h:p:=by simp[hx]):p:=h
theorem zY{p:Prop}(h:p:=by rw[hj];omega):p:=h
theorem zX{p:Prop}(h:p:=by rw[h];simp):p:=h
theorem zW{p:Prop}(h:p:=by rw[hj];decide):p:=h
theorem zV{p:Prop}(h:p:=by dsimp only;omega):p:=h
theorem zU{p:Prop}(h:p:=by simp at hk;omega):p:=h
theorem zT{p:Prop}(h:p:=by simp(maxSteps:=9999999) (disch:=try exact dx)only[d9]):p:=h
theorem zS{p:Prop}(h:p:=by rw[vX];omega):p:=h
theorem zR{p:Prop}(h:p:=by rw[vZ];omega):p:=h
theorem zQ{p:Prop}(h:p:=by have:=hUc _ hi;omega):p:=h
theorem zP{p:Prop}(h:p:=by rw[fA,fB,fN,fl];rfl):p:=h
theorem zO{p:Prop}(h:p:=by dsimp only;omega):p:=h
theorem zN{p:Prop}(h:p:=by have:=uk.1 h;omega):p:=h
theorem zM{p:Prop}(h:p:=by rw[q,a0H hk (by unfold a2r;rw[hA];rfl)]):p:=h
theorem zL{p:Prop}(h:p:=by rw[hs c zy zy zy];simp(disch:=first|assumption|omega)only[d9,o7]):p:=h
theorem zK{p:Prop}(h:p:=by rw[hs j zy zy k2];simp(disch:=first|assumption|omega)only[d9]):p:=h
theorem zJ{p:Prop}(h:p:=by have:=wB List.length hd;simp at this;omega):p:=h
theorem zI{p:Prop}(h:p:=by have:=wB List.tail hd;simpa using this):p:=h
theorem zH{p:Prop}(h:p:=by obtain⟨z,h34'⟩:=h34 (upd h c (.cells [(.int .i64 X.op,0),(.int .i64 X.A,0),(.int .i64 X.B,0),(.int .u64 (Int.ofNat X.N),0),(.int .i64 X.k,0),(.int .i64 X.v,0),(.int .i64 X.i,0),(tv,0),(lv,0)] 0 false)) (λb hb=>d9 zy);obtain⟨h35,h39,h36,h36',h37c,h37,h37',h38,h44,h96⟩:=C;obtain⟨ta,te,rfl,_⟩:=id Ht;obtain⟨la,le,rfl,_⟩:=id Hl;simp only[D6,hA,hB,wF]at h34';have nl:=Y2 X.op;have l1:=L8 a zy;have l2:=L8 b zy;have q1:=h37 a zy;have q2:=h37' b zy;have q3:=h37' a zy;have q4:=h37c a zy;simp(maxSteps:=9999999) (disch:=try exact dy)only[gD,a0W,a3P,a1h,a1c,D6,hA,hB,h34',h35,h39,h36,h38,h44,h96,q1,T9,Nat.reduceMul,ap9,Nat.reduceAdd];exact l9.done ⟨by simp only[U7,D9,wH],λi hi=>by simp(maxSteps:=9999999) (disch:=try exact dy)only[d9]⟩):p:=h
theorem zG{p:Prop}(h:p:=by obtain⟨o,A,B,N,k,v,bi,ts,ls⟩:=X;obtain⟨⟨a,hA,hA1,hA2⟩,⟨b,hB,hB1,hB2⟩,hN2,hN3,hb,ht,hl,hr⟩:=H;simp only at ho hA hB hN2 hN3 hb ht hl hr hN;subst ho;subst hA;subst hB;obtain⟨rfl,rfl,rfl⟩:=hb zu;obtain rfl:=ht zu;obtain rfl:=hl zu;obtain rfl:=hB2 rfl;obtain rfl:=hN2 rfl;exact⟨⟨op,a,0,0,0,0,0,[],[]⟩,[.w (Lib.decDigits a)],.one hi zu hA1,rfl,by show S.U7 a=_;simp[S.U7,It.b],rfl⟩):p:=h
theorem zF{p:Prop}(h:p:=by have:=wB (λt=>t[0]?) hd;simpa using this):p:=h
theorem zD{p:Prop}(h:p:=by rw[a1C 3 bs.length (bs.length+1) k ab 0 (some g2) (wE _) zu,a8S]):p:=h
theorem zC{p:Prop}(h:p:=by have:=hs i zy k3;simp(disch:=first|assumption|omega)only[d9]at this;exact this):p:=h
theorem zB{p:Prop}(h:p:=by show(match l[i]? with|none=>_|some n=>_)=_;rw[hi];simp only[hk,ht,ht2,y9,A9,Nat.reduceEqDiff,tV,uE,pg,eX,hop,f1];rfl):p:=h
theorem zA{p:Prop}(h:p:=by obtain⟨z,h34'⟩:=h34 (upd h c (.cells [(.int .i64 X.op,0),(.int .i64 X.A,0),(.int .i64 X.B,0),(.int .u64 (Int.ofNat X.N),0),(.int .i64 X.k,0),(.int .i64 X.v,0),(.int .i64 X.i,0),(tv,0),(lv,0)] 0 false)) (λb hb=>d9 zy);obtain⟨h35,h39,h36,h36',h37c,h37,h37',h38,h44,h96⟩:=C;obtain⟨ta,te,rfl,_⟩:=id Ht;obtain⟨la,le,rfl,_⟩:=id Hl;simp only[D6,hA,hB,wF]at hq;have nx:=λ(c:Nat) (h:Trie VObj) (r w:List Nat)=>b3l (c:=c) (h:=h) (r:=r) (w:=w) hq rfl;simp only[D6,hA,hB,wF]at h34';have nl:=Y2 X.op;have l1:=L8 a zy;have l2:=L8 b zy;have q1:=h37 a zy;have q2:=h37' b zy;have q3:=h37' a zy;have q4:=h37c a zy;cases hz:b.beq 0 with|true=>simp(maxSteps:=9999999) (disch:=try exact dy)only[gD,a0W,a1h,a1c,D6,hA,hB,h34',h35,h39,h38,h44,h96,h41,nx,hz,T9,Nat.reduceMul,ap9,Nat.reduceAdd];exact l9.done ⟨by simp only[a0v,A9,hz,D9,vR,wH],λi hi=>by simp(maxSteps:=9999999) (disch:=try exact dy)only[d9]⟩|false=>simp(maxSteps:=9999999) (disch:=try exact dy)only[gD,a0W,a3P,a1h,a1c,D6,hA,hB,h34',h35,h39,h36',h38,h44,h96,q2,h41,nx,hz,T9,Nat.reduceMul,ap9,Nat.reduceAdd];exact l9.done ⟨by simp only[a0v,U7,y9,hz,D9,vD,wH],λi hi=>by simp(maxSteps:=9999999) (disch:=try exact dy)only[d9]⟩):p:=h
theorem yz{p:Prop}(h:p:=by obtain⟨z,h34'⟩:=h34 (upd h c (.cells [(.int .i64 X.op,0),(.int .i64 X.A,0),(.int .i64 X.B,0),(.int .u64 (Int.ofNat X.N),0),(.int .i64 X.k,0),(.int .i64 X.v,0),(.int .i64 X.i,0),(tv,0),(lv,0)] 0 false)) (λb hb=>d9 zy);obtain⟨h35,h39,h36,h36',h37c,h37,h37',h38,h44,h96⟩:=C;obtain⟨ta,te,rfl,_⟩:=id Ht;obtain⟨la,le,rfl,_⟩:=id Hl;simp only[D6,hA,hB,wF]at h34';have nl:=Y2 X.op;have l1:=L8 a zy;have l2:=L8 b zy;have q1:=h37 a zy;have q2:=h37' b zy;have q3:=h37' a zy;have q4:=h37c a zy;cases hz:b.beq 0 with|true=>simp(maxSteps:=9999999) (disch:=try exact dy)only[gD,a0W,a3P,a1h,a1c,D6,hA,hB,h34',h35,h39,h36,h38,h44,h96,q1,hz,T9,Nat.reduceMul,ap9,Nat.reduceAdd];exact l9.done ⟨by simp only[a0v,U7,A9,hz,D9,vR,wH],λi hi=>by simp(maxSteps:=9999999) (disch:=try exact dy)only[d9]⟩|false=>simp(maxSteps:=9999999) (disch:=try exact dy)only[gD,a0W,a3P,a1h,a1c,D6,hA,hB,h34',h35,h39,h36,h36',h38,h44,h96,q1,q2,hz,T9,Nat.reduceMul,ap9,Nat.reduceAdd];exact l9.done ⟨by simp only[a0v,U7,y9,hz,D9,vD,wH],λi hi=>by simp(maxSteps:=9999999) (disch:=try exact dy)only[d9]⟩):p:=h
theorem yx{p:Prop}(h:p:=by obtain⟨z,h34'⟩:=h34 (upd h c (.cells [(.int .i64 X.op,0),(.int .i64 X.A,0),(.int .i64 X.B,0),(.int .u64 (Int.ofNat X.N),0),(.int .i64 X.k,0),(.int .i64 X.v,0),(.int .i64 X.i,0),(tv,0),(lv,0)] 0 false)) (λb hb=>d9 zy);obtain⟨h35,h39,h36,h36',h37c,h37,h37',h38,h44,h96⟩:=C;obtain⟨ta,te,rfl,_⟩:=id Ht;obtain⟨la,le,rfl,_⟩:=id Hl;simp only[D6,hA,hB,wF]at h34';have nl:=Y2 X.op;have l1:=L8 a zy;have l2:=L8 b zy;have q1:=h37 a zy;have q2:=h37' b zy;have q3:=h37' a zy;have q4:=h37c a zy;simp(maxSteps:=9999999) (disch:=try exact dy)only[gD,a0W,a1h,a1c,D6,hA,hB,h34',h35,h39,h38,h44,h96,h42,T9,Nat.reduceMul,ap9,Nat.reduceAdd];exact l9.done ⟨by simp only[D9,wH],λi hi=>by simp(maxSteps:=9999999) (disch:=try exact dy)only[d9]⟩):p:=h
theorem yw{p:Prop}(h:p:=by obtain⟨o,A,B,N,k,v,bi,ts,ls⟩:=X;obtain⟨⟨a,hA,hA1,hA2⟩,⟨b,hB,hB1,hB2⟩,hN2,hN3,hb,ht,hl,hr⟩:=H;simp only at ho hA hB hN2 hN3 hb ht hl hr hN;subst ho;subst hA;subst hB;obtain⟨rfl,rfl,rfl⟩:=hb zu;obtain rfl:=ht zu;obtain rfl:=hl zu;obtain rfl:=hN2 rfl;refine⟨⟨op,a,b,0,0,0,0,[],[]⟩,_,.two hi zu hA1 hB1,rfl,?_,rfl⟩;show S.a6H a b=_;unfold S.a6H;cases Nat.beq a 0&&Nat.beq b 0 with|true=>rfl|false=>show S.U7 a++S.U7 b=_;simp[S.U7,It.b,bcase]):p:=h
theorem yu{p:Prop}(h:p:=by obtain⟨o,A,B,N,k,v,bi,ts,ls⟩:=X;obtain⟨⟨a,hA,hA1,hA2⟩,⟨b,hB,hB1,hB2⟩,hN2,hN3,hb,ht,hl,hr⟩:=H;simp only at ho hA hB hN2 hN3 hb ht hl hr hN;subst ho;subst hA;subst hB;obtain⟨rfl,rfl,rfl⟩:=hb zu;obtain rfl:=ht zu;obtain rfl:=hl zu;obtain rfl:=hN2 rfl;refine⟨⟨op,a,b,0,0,0,0,[],[]⟩,_,.ini hi zu hA1 hB1,rfl,?_,rfl⟩;show D7 (S.a0v b) (S.U7 a)=_;rw[b1h];simp[D9,S.U7,It.b]):p:=h
theorem yo{p:Prop}(h:p:=by simp(maxSteps:=9999999) (disch:=try exact dy)only[d9]):p:=h
theorem yn{p:Prop}(h:p:=by simp only[d9 (hf i hi)]):p:=h
theorem ym{p:Prop}(h:p:=by unfold sgn;split<;>omega):p:=h
theorem yl{p:Prop}(h:p:=by simpa[pY]using hd):p:=h
theorem yj{p:Prop}(h:p:=by rw[wG,hl];rfl):p:=h
theorem yg{p:Prop}(h:p:=by rcases hor with h0|h0;rw[h0]at hbn;cases hbn;exact h0):p:=h
theorem yf{p:Prop}(h:p:=by rw[a3a,uW,wI];omega):p:=h
theorem yc{p:Prop}(h:p:=by rw[q,a0H hk (by unfold a2r;rw[hA,hB];rfl)]):p:=h
theorem yZ{p:Prop}(h:p:=by show(w.heap.push _)[w.heap.size]?=_;simp):p:=h
theorem yY{p:Prop}(h:p:=by simp only[vz];omega):p:=h
theorem yX{p:Prop}(h:p:=by have h9:=H.z2;have h8:=hs.2.1;simp only[wI]at h9;omega):p:=h
theorem yV{p:Prop}(h:p:=by rw[R5,a1l (by have:=hfl b0;show bs.length*3+2+1<=_;omega)];rfl):p:=h
theorem yU{p:Prop}(h:p:=by show bcase (Y3 n.k n.t) (bcase (decide ((a0q L n.t).2=0)) (bcase (hdI t) _ _) _) _=_;rw[m1,wL m2,eI];rfl):p:=h
theorem yT{p:Prop}(h:p:=by have:=H.z2;have h8:=hs.2.1;obtain⟨Y,hY,hLY⟩:=H.L;dsimp only;rw[hLY,wG];omega):p:=h
theorem yS{p:Prop}(h:p:=by unfold N9;rw[hi];show bcase (Y3 n.k n.t) (bcase _ _ _) _=_;rw[q1,wP q2];rfl):p:=h
theorem yR{p:Prop}(h:p:=by unfold N9;rw[hi];show bcase (Y3 n.k n.t) (bcase _ _ _) _=_;rw[q1,wL q2];rfl):p:=h
theorem yQ{p:Prop}(h:p:=by obtain⟨h,rfl⟩:=wM.1 hzi;exact tK h):p:=h
theorem yP{p:Prop}(h:p:=by have:=wB List.length hd;rw[uq]at this;simp at this;omega):p:=h
theorem yO{p:Prop}(h:p:=by apply uj;intro i;cases hi:vs[i]? with|none=>exact vo (by rw[r.len];simp_all)|some y=>obtain⟨y',q1,q2⟩:=r.get? hi;rw[q1,q2.eq_of_plain ((M4 _ _).1 hp _ (vP hi))]):p:=h
theorem yN{p:Prop}(h:p:=by intro l;induction l with|nil=>exact V9 _ _|cons y l ih=>show(match Nat.ble 0 0 with|true=>(match y8 0 (U0 (λv=>(v,0)) l) l.length with|some vs=>some (y::vs)|none=>none)|false=>none)=_;rw[a3K,ih]):p:=h
theorem yM{p:Prop}(h:p:=by by_cases q:a<b;rw[wL q];simp only[vZ,vz];omega;rw[wP q];simp only[vX,vz];omega):p:=h
theorem yL{p:Prop}(h:p:=by by_cases q:a=b;rw[wL q];simp only[vZ,vz];omega;rw[wP q];simp only[vX,vz];omega):p:=h
theorem yK{p:Prop}(h:p:=by refine⟨wQ _,λi k=>?_,λi k1 k2=>k2,λi k1 k2=>k2,λi k=>k,λi k=>Or.inl k⟩;obtain⟨k1,k2,k3,k4,k5⟩:=H.vf i k;simp(disch:=first|assumption|omega)only[d9]):p:=h
theorem yJ{p:Prop}(h:p:=by by_cases hb:c b;exact hb;cases hm:m b with|none=>rw[V.dom b hb hm]at hc;cases hc|some x=>obtain⟨_,_,cs',ds,e1,_⟩:=V.new b x.1 x.2 hm;rw[e1]at hc;cases hc):p:=h
theorem yI{p:Prop}(h:p:=by rw[q,a0H hk (by unfold a2r;rw[hA,hB,hal];show D7 (D7 (a0v b) (a3t X.N)) (b0t a al)=_;unfold a3t b0t;rw[hz,hy];simp only[U9,V7,D9,wH])]):p:=h
theorem yH{p:Prop}(h:p:=by simpa[uh]using q):p:=h
theorem yG{p:Prop}(h:p:=by have:=hUc _ hi;omega):p:=h
theorem yF{p:Prop}(h:p:=by rw[a5o sh n f _ h,a6g];rfl):p:=h
theorem yE{p:Prop}(h:p:=by have:=hi;grind[a3d,F9]):p:=h
theorem yD{p:Prop}(h:p:=by rw[q,a0H hk (by rfl)]):p:=h
theorem yC{p:Prop}(h:p:=by dsimp only at k;omega):p:=h
theorem yB{p:Prop}(h:p:=by grind[Op.operands]):p:=h
theorem yA{p:Prop}(h:p:=by simp(disch:=first|assumption|omega)only[d9]):p:=h
theorem xz{p:Prop}(h:p:=by rw[e0];unfold a6e;rw[hz,hy];rfl):p:=h
theorem xy{p:Prop}(h:p:=by simp only[D9,wH]):p:=h
theorem xx{p:Prop}(h:p:=by rw[qR,uM,sQ]):p:=h
theorem xw{p:Prop}(h:p:=by have:=H.z2;have h8:=hs.2.2;have h9:=H.lb;dsimp only;omega):p:=h
theorem xu{p:Prop}(h:p:=by unfold N9;rw[hi];show bcase (Y3 n.k n.t) _ _=_;rw[q1];rfl):p:=h
theorem xq{p:Prop}(h:p:=by simp only[a0v,U7,y9,hz,D9,wH]):p:=h
theorem xm{p:Prop}(h:p:=by simp only[a0v,A9,hz,D9,wH]):p:=h
theorem xh{p:Prop}(h:p:=by obtain⟨t,ht⟩:=hpre;rw[<-ht,vw,List.find?_append,og.2 (λx hx=>by simpa using hq x hx)];simp;exact Or.inl hy):p:=h
theorem xg{p:Prop}(h:p:=by generalize hv1:Value.slice (some ad') len cap=z' at p4;generalize hv2:Value.slice (some ad) len e.size=z at p4;cases p4<;>grind):p:=h
theorem xZ{p:Prop}(h:p:=by intro bs;induction bs with|nil=>rfl|cons R Rs ih=>rw[vU,wG,ih,wI];show 3+_=_;omega):p:=h
theorem xY{p:Prop}(h:p:=by rw[a4u,IntKind.wrap_i64];unfold sgn;rw[Int.fdiv_eq_ediv_of_nonneg _ zu];simp only[vz];split<;>omega):p:=h
theorem xX{p:Prop}(h:p:=by cases e:N9 fd l q R.i with|er p e=>exact Kp.er _ _ _ _|ok k=>obtain⟨n,hi⟩:=b5F e;exact Kp.step hi rfl rfl rfl rfl):p:=h
theorem xW{p:Prop}(h:p:=by rcases hq with⟨k,e,rfl,hF⟩|⟨p,e',e,rfl,hF⟩;rw[e];exact⟨rfl,hF⟩;rw[e];exact⟨rfl,hF⟩):p:=h
theorem xV{p:Prop}(h:p:=by cases ht:X.types with|nil=>rfl|cons t l=>cases l with|nil=>rw[ht]at hb;cases hb|cons t' l=>rfl):p:=h
theorem xU{p:Prop}(h:p:=by rcases rW x.n with h|h;exact h;have:=Nat.mul_pos h e0;simp at hx;omega):p:=h
theorem xS{p:Prop}(h:p:=by by_cases hx:b2=b;exact⟨_,by rw[hx];exact hb⟩;rw[hn b2 hx];exact S.dom2 b2 g2 l2 q):p:=h
theorem xR{p:Prop}(h:p:=by rw[wG,wI,vE,wF];omega):p:=h
theorem xQ{p:Prop}(h:p:=by rw[hh,vH rfl]):p:=h
theorem xP{p:Prop}(h:p:=by rw[hh,vN hj]):p:=h
theorem xO{p:Prop}(h:p:=by unfold a6e;rw[hN,hA];rfl):p:=h
theorem xM{p:Prop}(h:p:=by rw[(hf _).e];exact hk v):p:=h
theorem xL{p:Prop}(h:p:=by rw[H.L,wH]):p:=h
theorem xK{p:Prop}(h:p:=by have:=hl.len.2;omega):p:=h
theorem xJ{p:Prop}(h:p:=by simpa using r2.len):p:=h
theorem xI{p:Prop}(h:p:=by rw[vW]at hi hj;omega):p:=h
theorem xH{p:Prop}(h:p:=by rw[tK zy];simp):p:=h
theorem xG{p:Prop}(h:p:=by have:=kk.2;dsimp only at this;omega):p:=h
theorem xE{p:Prop}(h:p:=by rw[wI]at hst;omega):p:=h
theorem xD{p:Prop}(h:p:=by induction n<;>first|rfl|grind[a6O]):p:=h
theorem xC{p:Prop}(h:p:=by rw[hs5 _ zy λho=>(H4.dp.oo _ ho).1 rfl];simp(disch:=first|assumption|omega)only[d9];exact hp4):p:=h
theorem wz{p:Prop}(h:p:=by have k3:=(H.lo b k2).1;have k4:=(H.lo b k2).2.1;simp(disch:=first|assumption|omega)only[d9]):p:=h
theorem wy{p:Prop}(h:p:=by have ht:t∉D7 (a0L a) (a0L b):=ht;rw[D9,ut,not_or]at ht;exact ht):p:=h
theorem ww{p:Prop}(h:p:=by show bcase (decide (b.toNat=45)||decide (b.toNat=43)) _ _=_;rw[h45,h43,u5];rfl):p:=h
theorem wu{p:Prop}(h:p:=by simp only[U7,a6H,y9,uD,hy,hz,D9,vD,wH]):p:=h
theorem wo{p:Prop}(h:p:=by show bcase (decide (b.toNat=45)||decide (b.toNat=43)) _ _=_;rw[h45,h43];rfl):p:=h
theorem wm{p:Prop}(h:p:=by show k (match Nat.beq i id with|true=>.normal|false=>.exit i) fr=_;rw[h]):p:=h
theorem wh{p:Prop}(h:p:=by grind[Instr.findKey,Sem.run_bind,Y9,Result.andThen_ok,Sem.run_pure]):p:=h
theorem wZ{p:Prop}(h:p:=by simp only[U7,a6H,y9,a3J,hy,hz,D9,vD,wH]):p:=h
theorem wY{p:Prop}(h:p:=by simp only[U7,a6H,y9,b1P,hy,hz,D9,vD,wH]):p:=h
theorem wX{p:Prop}(h:p:=by unfold S.M0;rw[vM,wO hlt];rfl):p:=h
theorem wW{p:Prop}(h:p:=by obtain⟨o2,s2,hr,_⟩:=C8 (G5 h4).choose_spec.2;exact(b0C hr).1):p:=h
theorem wV{p:Prop}(h:p:=by cases x with|ok k=>exact R9.ok _|er p e=>exact R9.er (h p e rfl)):p:=h
theorem wU{p:Prop}(h:p:=by simpa using r2.at_):p:=h
theorem wT{p:Prop}(h:p:=by rw[wG];omega):p:=h
end Go
section
noncomputable section
namespace Go.V
def x8 {α:Type}(l:List α):Nat:=List.rec (motive:=λ_=>Nat) 0 (λ_ _ n=>n+1) l
def a0l {α:Type}(l:List α):Nat->Option α:=List.rec (motive:=λ_=>Nat->Option α) (λ_=>none) (λv _ ih i=>Nat.rec (motive:=λ_=>Option α) (some v) (λi _=>ih i) i) l
def H9 {α:Type}(l:List α):Nat->List α:=List.rec (motive:=λ_=>Nat->List α) (λ_=>[]) (λv l ih i=>Nat.rec (motive:=λ_=>List α) (v::l) (λi _=>ih i) i) l
def a0x {α:Type}(l:List α):Nat->List α:=List.rec (motive:=λ_=>Nat->List α) (λ_=>[]) (λv _ ih i=>Nat.rec (motive:=λ_=>List α) [] (λi _=>v::ih i) i) l
def D7 {α:Type}(l m:List α):List α:=List.rec (motive:=λ_=>List α) m (λv _ ih=>v::ih) l
def U0 {α β:Type}(f:α->β)(l:List α):List β:=List.rec (motive:=λ_=>List β) [] (λv _ ih=>f v::ih) l
def J2 {α:Type}(f:α->Bool)(l:List α):Bool:=List.rec (motive:=λ_=>Bool) true (λv _ ih=>Bool.rec (motive:=λ_=>Bool) false ih (f v)) l
def beqBytes (l:List UInt8):List UInt8->Bool:=List.rec (motive:=λ_=>List UInt8->Bool) (λm=>match m with|[]=>true|_::_=>false) (λv _ ih m=>match m with|[]=>false|w::m=>Bool.rec (motive:=λ_=>Bool) false (ih m) (Nat.beq v.toNat w.toNat)) l
def a7v (l:List UInt8):List UInt8->Bool:=List.rec (motive:=λ_=>List UInt8->Bool) (λm=>match m with|[]=>false|_::_=>true) (λv _ ih m=>match m with|[]=>false|w::m=>match Nat.blt v.toNat w.toNat with|true=>true|false=>match Nat.beq v.toNat w.toNat with|true=>ih m|false=>false) l
inductive Trie (α:Type) where
 | leaf
 | node (v:Option α) (l r:Trie α)
def Trie.get {α:Type}(t:Trie α):Nat->Option α:=Trie.rec (motive:=λ_=>Nat->Option α) (λ_=>none) (λv _ _ gl gr n=>match n with|0=>v|k+1=>match k%2 with|0=>gl (k/2)|_+1=>gr (k/2)) t
def Trie.putK {α β:Type}(o:Option α)(f:Nat):Trie α->Nat->(Trie α->β)->β:=Nat.rec (motive:=λ_=>Trie α->Nat->(Trie α->β)->β) (λt _ q=>q t) (λ_ ih t n q=>match n with
 |0=>match t with|.leaf=>q (.node o .leaf .leaf)|.node _ l r=>q (.node o l r)
 |k+1=>match t with
  |.leaf=>match k%2 with|0=>ih .leaf (k/2) λt=>q (.node none t .leaf)|_+1=>ih .leaf (k/2) λt=>q (.node none .leaf t)
  |.node v l r=>match k%2 with|0=>ih l (k/2) λt=>q (.node v t r)|_+1=>ih r (k/2) λt=>q (.node v l t)) f
def a8x {α:Type}(n:Nat)(k:Nat->α):α:=match n with|0=>k 0|m+1=>k (m+1)
def d3K {α:Type}(n:Int)(k:Int->α):α:=match n with|.ofNat m=>a8x m λm=>k (.ofNat m)|.negSucc m=>a8x m λm=>k (.negSucc m)
def fList {β α:Type}(l:List β):(List β->α)->α:=List.rec (motive:=λ_=>(List β->α)->α) (λk=>k []) (λx _ ih k=>ih λl=>k (x::l)) l
def c5g {α:Type}(g:Option Nat)(k:Option Nat->α):α:=match g with|none=>k none|some g=>a8x g λg=>k (some g)
def b9s {α:Type}(a:Option Addr)(k:Option Addr->α):α:=match a with|none=>k none|some a=>a8x a.block λb=>a8x a.off λoff=>c5g a.spot λg=>k (some ⟨b,off,g⟩)
def a7Y {α:Type}(v:Value)(k:Value->α):α:=match v with
 |.int kd n=>d3K n λn=>k (.int kd n)|.bool b=>match b with|true=>k (.bool true)|false=>k (.bool false)
 |.string s=>k (.string s)|.pointer a=>b9s a λa=>k (.pointer a)|.slice a n c=>b9s a λa=>a8x n λn=>a8x c λc=>k (.slice a n c)|.agg cs=>fList cs.toList λl=>k (.agg ⟨l⟩)|.tuple cs=>fList cs.toList λl=>k (.tuple ⟨l⟩)|v=>k v
inductive VObj where
 | cells (cs:List (Value×Nat)) (cur:Nat) (ro:Bool)
 | map (es:List (Value×Value))
 | siter (s:ByteArray) (pos:Nat)
structure S where
 c:Nat
 h:Trie VObj
 r:List Nat
 w:List Nat
def M (α:Type):Type:=S->Option (α×S)
def M.pure {α:Type}(a:α):M α:=λs=>some (a,s)
def M.bind {α β:Type}(m:M α)(f:α->M β):M β:=λs=>match m s with|none=>none|some x=>f x.1 x.2
def M.fail {α:Type}:M α:=λ_=>none
def M.lift {α:Type}(o:Option α):M α:=λs=>match o with|none=>none|some a=>some (a,s)
def M.obind {α β:Type}(o:Option α)(f:α->M β):M β:=match o with|none=>M.fail|some a=>f a
def M.guard {α:Type}(b:Bool)(m:M α):M α:=match b with|true=>m|false=>M.fail
def rd (i:Nat):M VObj:=λs=>match Nat.blt i s.c with
 |true=>match s.h.get i with|some o=>some (o,⟨s.c,s.h,i::s.r,s.w⟩)|none=>none
 |false=>none
def wr (i:Nat)(o:VObj):M Unit:=λs=>match Nat.blt i s.c with
 |true=>match s.h.get i with|some _=>Trie.putK (some o) (i+1) s.h i λh=>some ((),⟨s.c,h,s.r,i::s.w⟩)|none=>none
 |false=>none
def new (o:VObj):M Nat:=λs=>Trie.putK (some o) (s.c+1) s.h s.c λh=>a8x (s.c+1) λc=>some (s.c,⟨c,h,s.r,s.c::s.w⟩)
structure TI where
 und:TypeDesc
 size:Nat
 bytes:Nat
 zero:Value
structure Tab where
 types:Trie TI
 funcs:Trie Func
 ng:Nat
def a0J {α:Type}(p:Program)(s:Sem α):Option α:=Sem.rec (motive:=λ_=>Option α) (λa=>some a) (λ_ _ _ _=>none) (λ_ _ _ _ _=>none) (λ_ _ _=>none) (λ_ _ _=>none) (λ_ _ _ _=>none) (λ_ _ _=>none) (λ_ _ _=>none) (λ_ _ _ _=>none) (λ_ _ _=>none) (λ_ _ _=>none) (λ_ ih=>ih p) (λ_ _ ih=>ih) (λ_=>none) s
def plain:Value->Bool|.bool _=>true|.int ..=>true|.float ..=>true|.complex ..=>true|.string _=>true|.pointer a=>a.isNone|.slice a n c=>a.isNone&&Nat.beq n 0&&Nat.beq c 0|.map r=>r.isNone|.nilFunc=>true|.nilIface=>true|_=>false
def K9 (n:Nat):Value->Bool:=Nat.rec (motive:=λ_=>Value->Bool) (λ_=>false) (λ_ ih v=>match v with|.agg cs=>J2 ih cs.toList|.tuple cs=>J2 ih cs.toList|.iface _ v=>ih v|v=>plain v) n
def C9 (l:List Value):Nat->Value:=List.rec (motive:=λ_=>Nat->Value) (λ_=>undef) (λv _ ih i=>Nat.rec (motive:=λ_=>Value) v (λi _=>ih i) i) l
def a4O (l:List Value):Nat->Value->List Value:=List.rec (motive:=λ_=>Nat->Value->List Value) (λ_ _=>[]) (λv l ih i x=>Nat.rec (motive:=λ_=>List Value) (x::l) (λi _=>v::ih i x) i) l
def X7 (T:Tab)(fr:List Value):Operand->Option Value
 |.tmp t=>some (C9 fr t)|.const v=>match K9 3 v with|true=>some v|false=>none
 |.global g=>match Nat.blt g T.ng with|true=>some (.pointer (some ⟨g,0,some 0⟩))|false=>none
 |.func f=>some (.func (.func f) #[] #[])
def a0T (T:Tab)(fr:List Value)(os:List Operand):Option (List Value):=List.rec (motive:=λ_=>Option (List Value)) (some []) (λo _ ih=>match X7 T fr o with|none=>none|some v=>match ih with|none=>none|some vs=>some (v::vs)) os
def ev (T:Tab)(fr:List Value)(x:Operand)(k:Value->M Value):M Value:=M.obind (X7 T fr x) k
def evs (T:Tab)(fr:List Value)(x:List Operand)(k:List Value->M Value):M Value:=M.obind (a0T T fr x) k
def y8 (g:Nat)(cs:List (Value×Nat)):Nat->Option (List Value):=List.rec (motive:=λ_=>Nat->Option (List Value)) (λn=>match n with|0=>some []|_+1=>none) (λc _ ih n=>match n with
 |0=>some []|n+1=>match Nat.ble c.2 g with
  |true=>match ih n with|some vs=>some (c.1::vs)|none=>none
  |false=>none) cs
def a2W (g:Nat)(vs:List Value):List (Value×Nat)->List (Value×Nat):=List.rec (motive:=λ_=>List (Value×Nat)->List (Value×Nat)) (λcs=>cs) (λv _ ih cs=>match cs with|[]=>(v,g)::ih []|_::cs=>(v,g)::ih cs) vs
def a2b (g:Nat)(vs:List Value)(cs:List (Value×Nat)):Nat->Option (List (Value×Nat)):=List.rec (motive:=λ_=>Nat->Option (List (Value×Nat))) (λn=>match n with|0=>some (a2W g vs [])|_+1=>none) (λc cs ih n=>match n with|0=>some (a2W g vs (c::cs))|n+1=>match ih n with|some cs'=>some (c::cs')|none=>none) cs
def O4:Value->Bool|.agg _=>false|.tuple _=>false|_=>true
def a7o {α:Type}(o:VObj)(k:List (Value×Nat)->Nat->Bool->M α):M α:=match o with|.cells cs cur ro=>k cs cur ro|_=>M.fail
def loadN (a:Addr)(n:Nat):M (List Value):=M.obind a.spot λg=>M.bind (rd a.block) λo=>a7o o λcs _ _=>M.lift (y8 g (H9 cs a.off) n)
def storeN (a:Addr)(vs:List Value):M Unit:=M.obind a.spot λg=>M.bind (rd a.block) λo=>a7o o λcs cur ro=>M.guard (Nat.beq g cur&& !ro&&J2 O4 vs&&Nat.ble (a.off+x8 vs) (x8 cs))<|M.obind (a2b g vs cs a.off) λcs'=>fList cs' λcs'=>wr a.block (.cells cs' cur ro)
def Y7 (vs:List Value):M Addr:=M.guard (J2 O4 vs)<|fList (U0 (λv=>(v,0)) vs) λcs=>M.bind (new (.cells cs 0 false)) λb=>M.pure ⟨b,0,some 0⟩
def fwd (a:Addr)(n:Nat):Addr:=⟨a.block,a.off+n,a.spot⟩
def a7R:Value->Option Nat
 |.int _ n=>match n with|.ofNat m=>some m|.negSucc _=>none
 |_=>none
def a2Z (d:Nat):Option Value->Option Nat|none=>some d|some v=>a7R v
def a0G {α:Type}(v:Value)(k:Addr->M α):M α:=match v with|.pointer a=>M.obind a k|_=>M.fail
def b0x:TypeDesc->Bool|.struct _=>true|.array _ _=>true|_=>false
def a3p:IntKind->Nat|.i8=>128|.i16=>32768|.i32=>2147483648|.i64=>9223372036854775808|.u8=>256|.u16=>65536|.u32=>4294967296|.u64=>18446744073709551616
def Q0 (k:IntKind)(n:Int):Int:=match n with
 |.ofNat m=>match Nat.blt m (a3p k)with|true=>.ofNat m|false=>k.wrap (.ofNat m)
 |.negSucc m=>match k.signed&&Nat.blt m (a3p k)with|true=>.negSucc m|false=>k.wrap (.negSucc m)
section
variable (p:Program)(T:Tab)
def ti {α:Type}(t:TypeId)(k:TI->M α):M α:=M.obind (T.types.get t) k
def a4K (t:TypeId)(a:Addr):M Value:=ti T t λi=>match b0x i.und with|true=>M.guard (!(Nat.beq i.size 0))<|M.bind (loadN a i.size) λvs=>M.pure (.agg ⟨vs⟩)|false=>M.bind (loadN a 1) λvs=>M.pure (C9 vs 0)
def b6C (t:TypeId)(a:Addr)(v:Value):M Unit:=ti T t λi=>M.guard (!(Nat.beq i.size 0)&&Nat.beq (x8 v.cells.toList) i.size)<|storeN a v.cells.toList
def a3W:Nat:=4294967296
def elemAt (a:Addr)(i len elem:Nat):M Value:=ti T elem λe=>M.guard (Nat.blt i len&& !(Nat.beq e.size 0))<|M.pure (.pointer (some (fwd a (i*e.size))))
def a9N (t:TypeId)(x ix:Value):M Value:=ti T t λd=>M.obind (a7R ix) λi=>match d.und with
 |.array len elem=>a0G x λa=>elemAt T a i len elem|.slice elem=>match x with|.slice a len es=>M.obind a λa=>ti T elem λe=>M.guard (Nat.beq es e.size)<|elemAt T a i len elem|_=>M.fail
 |_=>M.fail
def b2q (t:TypeId)(x:Value)(f:Nat):M Value:=ti T t λd=>match d.und with|.struct fields=>a0G x λa=>M.obind (a0l fields.toList f) λfd=>ti T fd.type λn=>M.guard (!(Nat.beq n.size 0))<|M.pure (.pointer (some (fwd a fd.offset)))|_=>M.fail
def cut (a:Addr)(len elem:Nat)(lo hi:Option Value):M Value:=ti T elem λe=>M.obind (a2Z 0 lo) λl=>M.obind (a2Z len hi) λh=>M.guard (Nat.ble l h&&Nat.ble h len&& !(Nat.beq e.size 0))<|M.pure (.slice (some (fwd a (l*e.size))) (h-l) e.size)
def a7U (s:ByteArray)(lo hi:Option Value):M Value:=M.obind (a2Z 0 lo) λl=>M.obind (a2Z (x8 s.data.toList) hi) λh=>M.guard (Nat.ble l h&&Nat.ble h (x8 s.data.toList))<|fList (a0x (H9 s.data.toList l) (h-l)) λb=>M.pure (.string ⟨⟨b⟩⟩)
def cutNil (lo hi:Option Value):M Value:=M.obind (a2Z 0 lo) λl=>M.obind (a2Z 0 hi) λh=>M.guard (Nat.beq l 0&&Nat.beq h 0)<|M.pure (.slice none 0 0)
def b3x (t:TypeId)(x:Value)(lo hi mx:Option Value):M Value:=ti T t λd=>M.guard mx.isNone<|match d.und with
 |.string=>match x with|.string s=>a7U s lo hi|_=>M.fail
 |.slice elem=>match x with
  |.slice a len es=>ti T elem λe=>match a with|some a=>M.guard (Nat.beq es e.size)<|cut T a len elem lo hi|none=>M.guard (Nat.beq len 0)<|cutNil lo hi
  |_=>M.fail
 |.array len elem=>a0G x λa=>ti T elem λe=>M.bind (loadN a (len*e.size)) λ_=>cut T a len elem lo hi|_=>M.fail
def a5N (zs:List Value)(n:Nat):List Value:=Nat.rec (motive:=λ_=>List Value) [] (λ_ ih=>D7 zs ih) n
def b1V (t:TypeId)(len cap:Value):M Value:=ti T t λd=>match d.und with|.slice elem=>ti T elem λe=>M.obind (a7R len) λl=>M.obind (a7R cap) λc=>M.guard (Nat.ble l c&&Nat.blt c a3W&&Nat.blt e.bytes 4096&&Nat.beq (x8 e.zero.cells.toList) e.size&& !(Nat.beq e.size 0)&&K9 8 e.zero)<|M.bind (Y7 (a5N e.zero.cells.toList l)) λa=>M.pure (.slice (some a) l e.size)|_=>M.fail
def pureV (o:Option Value):M Value:=M.obind o λv=>M.guard (K9 3 v)<|M.pure v
def a7h (b:UInt8):Value:=.int .u8 b.toNat
def b7y:Value->Option UInt8|.int .u8 n=>some (UInt8.ofNat n.toNat)|_=>none
def b4p (vs:List Value):Option (List UInt8):=List.rec (motive:=λ_=>Option (List UInt8)) (some []) (λv _ ih=>match b7y v with|none=>none|some b=>match ih with|some bs=>some (b::bs)|none=>none) vs
def a9s (size:Nat)(x:Value):M (List Value):=match x with
 |.slice a len es=>match a with|none=>M.guard (Nat.beq len 0)<|M.pure []|some a=>match len with|0=>M.pure []|len+1=>M.guard (Nat.beq es size)<|loadN a ((len+1)*size)
 |.string s=>M.guard (Nat.beq size 1)<|M.pure (U0 a7h s.data.toList)|_=>M.fail
def b5m:Value->Bool|.slice ..=>true|_=>false
def b3q:TypeDesc->Bool|.int _=>true|_=>false
def appendAt (e:TI)(a:Addr)(len:Nat)(vs:List Value)(m:Nat):M Value:=M.obind a.spot λg=>M.bind (rd a.block) λo=>a7o o λcs cur ro=>M.guard (!ro)<|M.guard (Nat.ble (a.off+len*e.size) (x8 cs))<|M.obind (y8 g (H9 cs a.off) (len*e.size)) λ_=>fList (D7 (a0x cs (a.off+len*e.size)) (U0 (λv=>(v,cur+1)) vs)) λcs'=>M.bind (wr a.block (.cells cs' (cur+1) ro)) λ_=>M.pure (.slice (some ⟨a.block,a.off,some (cur+1)⟩) (len+m) e.size)
def a1J (e:TI)(s:Value)(vs:List Value):M Value:=match vs with
 |[]=>M.guard (b5m s)<|M.pure s|v::vs=>match s with
  |.slice base len es=>a8x ((x8 vs+1)/e.size) λm=>M.guard (Nat.beq (m*e.size) (x8 vs+1)&&J2 O4 (v::vs)&&Nat.blt ((len+m)*4) a3W&&Nat.blt e.bytes 4096)<|match base with|none=>M.guard (Nat.beq len 0)<|M.bind (Y7 (v::vs)) λa=>M.pure (.slice (some a) m e.size)|some a=>M.guard (Nat.beq es e.size)<|appendAt e a len (v::vs) m
  |_=>M.fail
def appendV (argTypes:Array TypeId)(args:List Value):M Value:=M.obind (a0l argTypes.toList 0) λst=>M.obind (a0l argTypes.toList 1) λxt=>ti T st λd=>ti T xt λdx=>match d.und with|.slice elem=>M.obind (a0l args 0) λs=>M.obind (a0l args 1) λx=>ti T elem λe=>M.guard (!b3q dx.und&& !(Nat.beq e.size 0))<|M.bind (a9s e.size x) λvs=>fList vs λvs=>a1J e s vs|_=>M.fail
def a1q:Value->Value->Option Bool
 |.int a x,.int b y=>match decide (a=b)with|true=>some (decide (x=y))|false=>none
 |.string x,.string y=>some (beqBytes x.data.toList y.data.toList)|.bool x,.bool y=>some (x==y)|_,_=>none
def a1i (k:Value)(es:List (Value×Value)):Option (Option Value):=List.rec (motive:=λ_=>Option (Option Value)) (some none) (λe _ ih=>match a1q k e.1 with|none=>none|some true=>some (some e.2)|some false=>ih) es
def a5n (k v:Value)(es:List (Value×Value)):List (Value×Value):=List.rec (motive:=λ_=>List (Value×Value)) [(k,v)] (λe es ih=>match a1q k e.1 with|some true=>(k,v)::es|_=>e::ih) es
def a8H:TypeDesc->Value->Bool|.int k,.int k' _=>decide (k=k')|.string,.string _=>true|.bool,.bool _=>true|_,_=>false
def c6G {α:Type}(o:VObj)(k:List (Value×Value)->M α):M α:=match o with|.map es=>k es|_=>M.fail
def a7d (r:Nat):M (List (Value×Value)):=M.bind (rd r) λo=>c6G o M.pure
def b4d (x:Value):M (List (Value×Value)):=match x with
 |.map r=>match r with|none=>M.pure []|some r=>a7d r
 |_=>M.fail
def b1m (commaOk:Bool)(v:Value)(b:Bool):Value:=match commaOk with|true=>.tuple #[v,.bool b]|false=>v
def b1E (t:TypeId)(x ix:Value)(commaOk:Bool):M Value:=ti T t λd=>match d.und with
 |.map key elem=>ti T key λkd=>ti T elem λed=>M.guard (a8H kd.und ix)<|M.bind (b4d x) λes=>M.obind (a1i ix es) λo=>match o with|some v=>M.pure (b1m commaOk v true)|none=>M.guard (K9 8 ed.zero)<|M.pure (b1m commaOk ed.zero false)
 |_=>M.fail
def a7L (t:TypeId)(m k v:Value):M Unit:=ti T t λd=>match d.und with
 |.map key _=>match m with|.map r=>M.obind r λr=>ti T key λkd=>M.guard (a8H kd.und k)<|M.bind (a7d r) λes=>M.obind (a1i k es) λ_=>fList (a5n k v es) λes'=>wr r (.map es')|_=>M.fail
 |_=>M.fail
def d1G (d:TypeDesc)(x:Value):M Value:=match d with
 |.array n _=>M.pure (goInt n)|.string=>match x with|.string s=>M.pure (goInt (x8 s.data.toList))|_=>M.fail
 |.slice _=>match x with|.slice _ n _=>M.pure (goInt n)|_=>M.fail
 |.map _ _=>M.bind (b4d x) λes=>M.pure (goInt (x8 es))|_=>M.fail
def c4Z:TypeDesc->Bool|.int .u8=>true|_=>false
def c4l (e:TypeId)(b:ByteArray):M Value:=ti T e λi=>M.guard (c4Z i.und&&Nat.blt (x8 b.data.toList) a3W)<|M.bind (Y7 (U0 a7h b.data.toList)) λa=>M.pure (.slice (some a) (x8 b.data.toList) 1)
def convBytes (e:TypeId)(x:Value):M Value:=ti T e λi=>M.guard (c4Z i.und)<|M.bind (a9s 1 x) λvs=>M.obind (b4p vs) λbs=>M.pure (.string ⟨⟨bs⟩⟩)
def b2j (src dst:TypeId)(x:Value):M Value:=ti T src λs=>ti T dst λd=>match d.und with
 |.int k=>match x with|.int _ n=>M.pure (.int k (Q0 k n))|_=>M.fail
 |.slice e=>match x with|.string b=>c4l T e b|_=>M.fail
 |.string=>match x with|.string b=>M.pure (.string b)|.int _ n=>M.pure (.string (Utf8.encode n))|_=>match s.und with|.slice e=>M.guard (b5m x)<|convBytes T e x|_=>M.fail
 |_=>M.fail
def b0z (fr:List Value)(c a b:Operand):M Value:=ev T fr c λvc=>ev T fr a λva=>ev T fr b λvb=>match vc with
 |.bool t=>match t with|true=>M.pure va|false=>M.pure vb
 |_=>M.fail
def a2C {α:Type}:List α->Bool|[]=>true|_::_=>false
def b4m (t:TypeId):M Value:=ti T t λi=>M.guard (K9 8 i.zero&& !(a2C i.zero.cells.toList))<|M.bind (Y7 i.zero.cells.toList) λa=>M.pure (.pointer (some a))
def b2z (fr:List Value)(x:Operand):M Value:=ev T fr x λv=>M.guard (!(a2C v.cells.toList))<|M.bind (Y7 v.cells.toList) λa=>M.pure (.pointer (some a))
def a6r (vs:List Value):List Value->List Value:=List.rec (motive:=λ_=>List Value->List Value) (λcs=>cs) (λv _ ih cs=>match cs with|[]=>[]|_::cs=>v::ih cs) vs
def a2Y (vs cs:List Value):Nat->List Value:=List.rec (motive:=λ_=>Nat->List Value) (λ_=>[]) (λc cs ih n=>match n with|0=>a6r vs (c::cs)|n+1=>c::ih n) cs
def a7V (place:Nat->Option (Nat×Nat))(qs:List (Nat×Operand)):List Value->List Value->Option (List Value):=List.rec (motive:=λ_=>List Value->List Value->Option (List Value)) (λ_ cs=>some cs) (λq _ ih vs cs=>match vs with|[]=>none|v::vs=>match place q.1 with|none=>none|some os=>match Nat.beq (x8 v.cells.toList) os.2&&Nat.ble (os.1+os.2) (x8 cs)with|true=>ih vs (a2Y v.cells.toList cs os.1)|false=>none) qs
def a5I (fields:List Field)(j:Nat):Option (Nat×Nat):=match a0l fields j with|none=>none|some f=>match T.types.get f.type with|none=>none|some i=>some (f.offset,i.size)
def a1Z (size j:Nat):Option (Nat×Nat):=some (j*size,size)
def b9x (f:Field):Bool:=(T.types.get f.type).isSome
def a8B (fr:List Value)(t:TypeId)(ps:Array (Nat×Operand)):M Value:=evs T fr (U0 (·.2) ps.toList) λvs=>ti T t λi=>M.guard (K9 8 i.zero)<|match i.und with|.struct fields=>M.guard (J2 (b9x T) fields.toList)<|M.obind (a7V (a5I T fields.toList) ps.toList vs i.zero.cells.toList) λcs=>M.pure (.agg ⟨cs⟩)|.array _ elem=>ti T elem λe=>M.obind (a7V (a1Z e.size) ps.toList vs i.zero.cells.toList) λcs=>M.pure (.agg ⟨cs⟩)|_=>M.fail
def a3O (fr:List Value)(t:TypeId)(len:Nat)(ps:Array (Nat×Operand)):M Value:=evs T fr (U0 (·.2) ps.toList) λvs=>ti T t λd=>match d.und with|.slice elem=>ti T elem λe=>M.guard (Nat.beq (x8 e.zero.cells.toList) e.size&& !(Nat.beq e.size 0)&&K9 8 e.zero&&Nat.ble (len*e.size) 16777216)<|M.obind (a7V (a1Z e.size) ps.toList vs (a5N e.zero.cells.toList len)) λcs=>M.bind (Y7 cs) λa=>M.pure (.slice (some a) len e.size)|_=>M.fail
def a7S (fr:List Value)(t:TypeId)(x:Operand):M Value:=ev T fr x λv=>a0G v λa=>a4K T t a
def a8z (fr:List Value)(t:TypeId)(x y:Operand):M Value:=ev T fr x λva=>ev T fr y λv=>a0G va λa=>M.bind (b6C T t a v) λ_=>M.pure undef
def c0q:Fn->Bool|.func _=>true|_=>false
def a5c (fr:List Value)(x:Operand):M Value:=ev T fr x λv=>match v with|.pointer a=>M.guard a.isSome<|M.pure (.pointer a)|.func fn a b=>M.guard (c0q fn)<|M.pure (.func fn a b)|_=>M.fail
def b4q (op:BinOp)(k:IntKind)(a b:Int):Option Value:=match op with|.add=>some (.int k (Q0 k (a+b)))|.sub=>some (.int k (Q0 k (a-b)))|.mul=>some (.int k (Q0 k (a*b)))|.eql=>some (.bool (decide (a=b)))|.neq=>some (.bool (!(decide (a=b))))|.lss=>some (.bool (decide (a<b)))|.leq=>some (.bool (decide (a<=b)))|.gtr=>some (.bool (decide (b<a)))|.geq=>some (.bool (decide (b<=a)))|_=>none
def a0C:IntKind->IntKind->Bool|.i8,.i8=>true|.i16,.i16=>true|.i32,.i32=>true|.i64,.i64=>true|.u8,.u8=>true|.u16,.u16=>true|.u32,.u32=>true|.u64,.u64=>true|_,_=>false
def b0N (k:IntKind)(m:Nat):Nat:=match Nat.ble m k.bits with|true=>m|false=>k.bits
def b9z (op:BinOp)(k:IntKind)(n m:Nat):Option Value:=match op with
 |.quo=>match m with|0=>none|m+1=>some (.int k (Q0 k (.ofNat (Nat.div n (Nat.succ m)))))
 |.rem=>match m with|0=>none|m+1=>some (.int k (.ofNat (Nat.mod n (Nat.succ m))))
 |.and=>some (.int k (Q0 k (.ofNat (Nat.land (Nat.mod n (Nat.pow 2 k.bits)) (Nat.mod m (Nat.pow 2 k.bits))))))|.or=>some (.int k (Q0 k (.ofNat (Nat.lor (Nat.mod n (Nat.pow 2 k.bits)) (Nat.mod m (Nat.pow 2 k.bits))))))|.xor=>some (.int k (Q0 k (.ofNat (Nat.xor (Nat.mod n (Nat.pow 2 k.bits)) (Nat.mod m (Nat.pow 2 k.bits))))))|_=>none
def a5h (op:BinOp)(k:IntKind)(n m:Nat):Option Value:=match op with|.shl=>some (.int k (Q0 k (.ofNat (Nat.mul n (Nat.pow 2 (b0N k m))))))|.shr=>some (.int k (.ofNat (Nat.div n (Nat.pow 2 (b0N k m)))))|_=>none
def a6d (f:Nat->Nat->Option Value)(a b:Int):Option Value:=match a with
 |.ofNat n=>match b with|.ofNat m=>f n m|.negSucc _=>none
 |.negSucc _=>none
def a3k (op:BinOp)(k k':IntKind)(a b:Int):Option Value:=match a6d (a5h op k) a b with
 |some v=>some v|none=>match a0C k k' with
  |true=>match b4q op k a b with|some v=>some v|none=>a6d (b9z op k) a b
  |false=>none
def b3U (op:BinOp)(x y:List UInt8):Option Value:=match op with
 |.add=>match Nat.blt (x8 x+x8 y) a3W with|true=>fList (D7 x y) λl=>some (.string ⟨⟨l⟩⟩)|false=>none
 |.eql=>some (.bool (beqBytes x y))|.neq=>some (.bool (!(beqBytes x y)))|.lss=>some (.bool (a7v x y))|.leq=>some (.bool (a7v x y||beqBytes x y))|.gtr=>some (.bool (!(a7v x y||beqBytes x y)))|.geq=>some (.bool (!(a7v x y)))|_=>none
def d1s:BinOp->Bool|.eql=>true|.neq=>true|_=>false
def a4e (d:TypeDesc)(a:Value):Option Bool:=match d with
 |.pointer _=>match a with|.pointer o=>some o.isNone|_=>none
 |.slice _=>match a with|.slice o _ _=>some o.isNone|_=>none
 |.map _ _=>match a with|.map o=>some o.isNone|_=>none
 |.func _ _ _=>match a with|.nilFunc=>some true|.func _ _ _=>some false|_=>none
 |.interface _=>match a with|.nilIface=>some true|.iface _ _=>some false|_=>none
 |_=>none
def isConstO:Operand->Bool|.const _=>true|_=>false
def b1q (T:Tab)(op:BinOp)(t:TypeId)(x y:Operand)(a b:Value):Option Bool:=match d1s op&&(isConstO x||isConstO y)with
 |true=>match T.types.get t with
  |some d=>match a4e d.und a with
   |some p=>match a4e d.und b with
    |some q=>match p||q with|true=>some (p&&q)|false=>none
    |none=>none
   |none=>none
  |none=>none
 |false=>none
def b5f (op:BinOp)(r:Bool):Bool:=match op with|.neq=>!r|_=>r
def a9z (op:BinOp)(t:TypeId)(x y:Operand)(a b:Value):M Value:=match b1q T op t x y a b with|some r=>M.pure (.bool (b5f op r))|none=>M.guard (K9 8 a&&K9 8 b)<|pureV (a0J p (do eqGuard op t x y a b;binOp op t a b))
def b2t (fr:List Value)(op:BinOp)(t:TypeId)(x y:Operand):M Value:=ev T fr x λa=>ev T fr y λb=>match a with
 |.int k n=>match b with
  |.int k' m=>match a3k op k k' n m with|some v=>M.pure v|none=>a9z p T op t x y a b
  |_=>M.fail
 |.string s=>match b with|.string s'=>M.lift (b3U op s.data.toList s'.data.toList)|_=>M.fail
 |_=>a9z p T op t x y a b
def b5q (fr:List Value)(op:UnOp)(x:Operand):M Value:=ev T fr x λa=>M.guard (plain a)<|pureV (a0J p (Op.unary op a))
def a4s (fr:List Value)(s d:TypeId)(x:Operand):M Value:=ev T fr x λa=>b2j T s d a
def c0U:TypeDesc->Bool|.interface _=>true|_=>false
def a8F (fr:List Value)(t:TypeId)(x:Operand):M Value:=ev T fr x λa=>ti T t λi=>M.guard (!(c0U i.und))<|M.pure (.iface t a)
def b0r (fr:List Value)(fn:Fn)(a b:Array Operand):M Value:=evs T fr a.toList λva=>evs T fr b.toList λvb=>M.pure (.func fn ⟨va⟩ ⟨vb⟩)
def c2j:TypeDesc->Bool|.map _ _=>true|_=>false
def b5G:Value->Bool|.int ..=>true|_=>false
def b2l (fr:List Value)(t:TypeId)(r:Option Operand):M Value:=match r with|none=>M.bind (new (.map [])) λb=>M.pure (.map (some b))|some x=>ev T fr x λv=>ti T t λd=>M.guard (c2j d.und&&b5G v)<|M.bind (new (.map [])) λb=>M.pure (.map (some b))
def b0f (fr:List Value)(t:TypeId)(l c:Operand):M Value:=ev T fr l λvl=>ev T fr c λvc=>b1V T t vl vc
def a8M (fr:List Value)(t:TypeId)(x:Operand)(lo hi mx:Option Operand):M Value:=evs T fr lo.toList λvlo=>evs T fr hi.toList λvhi=>evs T fr mx.toList λvmx=>ev T fr x λa=>b3x T t a (a0l vlo 0) (a0l vhi 0) (a0l vmx 0)
def a4G (fr:List Value)(t:TypeId)(x:Operand)(f:Nat):M Value:=ev T fr x λa=>b2q T t a f
def partV (t:TypeId)(cs:List Value)(off:Nat):M Value:=ti T t λi=>match b0x i.und with|true=>M.pure (.agg ⟨a0x (H9 cs off) i.size⟩)|false=>M.obind (a0l cs off) M.pure
def a6w (fr:List Value)(t:TypeId)(x:Operand)(f:Nat):M Value:=ev T fr x λa=>ti T t λi=>match i.und with
 |.struct fields=>match a with|.agg cs=>M.obind (a0l fields.toList f) λfd=>partV T fd.type cs.toList fd.offset|_=>M.fail
 |_=>M.fail
def a2R (fr:List Value)(t:TypeId)(x i:Operand):M Value:=ev T fr x λa=>ev T fr i λb=>a9N T t a b
def a8u (fr:List Value)(t:TypeId)(x i:Operand):M Value:=ev T fr x λa=>ev T fr i λb=>M.obind (a7R b) λj=>ti T t λd=>match d.und with
 |.string=>match a with|.string s=>M.obind (a0l s.data.toList j) λb=>M.pure (a7h b)|_=>M.fail
 |.array len elem=>match a with|.agg cs=>ti T elem λe=>M.guard (Nat.blt j len)<|partV T elem cs.toList (j*e.size)|_=>M.fail
 |_=>M.fail
def a7k (fr:List Value)(t:TypeId)(x i:Operand)(ok:Bool):M Value:=ev T fr x λa=>ev T fr i λb=>b1E T t a b ok
def a3L (fr:List Value)(t:TypeId)(m k x:Operand):M Value:=ev T fr m λa=>ev T fr k λb=>ev T fr x λv=>M.bind (a7L T t a b v) λ_=>M.pure undef
def a8A (fr:List Value)(t:TypeId)(x:Operand):M Value:=ev T fr x λv=>ti T t λd=>match d.und with
 |.string=>match v with|.string s=>M.bind (new (.siter s 0)) λb=>M.pure (.pointer (some ⟨b,0,some 0⟩))|_=>M.fail
 |_=>M.fail
def b3T (b:Nat)(s:ByteArray)(pos:Nat):M Value:=match Nat.blt pos (x8 s.data.toList)with|true=>a8x (pos+(Utf8.decode s pos).2) λpos'=>M.bind (wr b (.siter s pos')) λ_=>M.pure (.tuple #[.bool true,goInt pos,.int .i32 (Utf8.decode s pos).1])|false=>M.pure (.tuple #[.bool false])
def c9u:Option Nat->Bool|some g=>Nat.beq g 0|none=>false
def b0d (fr:List Value)(x:Operand)(str:Bool):M Value:=M.guard str<|ev T fr x λv=>a0G v λa=>M.guard (Nat.beq a.off 0&&c9u a.spot)<|M.bind (rd a.block) λo=>match o with|.siter s pos=>b3T a.block s pos|_=>M.fail
def a6n (fr:List Value)(x:Operand)(i:Nat):M Value:=ev T fr x λa=>match a with|.tuple vs=>M.obind (a0l vs.toList i) M.pure|_=>M.fail
def a0N (fr:List Value)(b:Builtin)(args:Array Operand)(argTypes:Array TypeId):M Value:=evs T fr args.toList λvs=>match b with|.append=>M.guard (Nat.beq (x8 vs) 2)<|appendV T argTypes vs|.len=>M.obind (a0l argTypes.toList 0) λt=>ti T t λd=>M.obind (a0l vs 0) λx=>d1G d.und x|.max=>M.guard (J2 plain vs)<|pureV (a0J p (Builtin.max_ argTypes 0 ⟨vs⟩))|.min=>M.guard (J2 plain vs)<|pureV (a0J p (Builtin.min_ argTypes 0 ⟨vs⟩))|_=>M.fail
def O7 (fr:List Value)(o:Op):M Value:=match o with|.move x=>M.lift (X7 T fr x)|.assign x=>M.lift (X7 T fr x)|.pick c a b=>b0z T fr c a b|.alloc t=>b4m T t|.box _ x=>b2z T fr x|.build t ps=>a8B T fr t ps|.buildSlice t len ps=>a3O T fr t len ps|.load t x=>a7S T fr t x|.store t x y=>a8z T fr t x y|.nilCheck x=>a5c T fr x|.binOp op t x y _=>b2t p T fr op t x y|.unOp op _ x=>b5q p T fr op x|.convert s d x=>a4s T fr s d x|.makeInterface t x=>a8F T fr t x|.makeFunc fn a b=>b0r T fr fn a b|.makeMap t r=>b2l T fr t r|.makeSlice t l c=>b0f T fr t l c|.slice t x lo hi mx=>a8M T fr t x lo hi mx|.fieldAddr t x f=>a4G T fr t x f|.field t x f=>a6w T fr t x f|.indexAddr t x i=>a2R T fr t x i|.index t x i=>a8u T fr t x i|.lookup t x i ok=>a7k T fr t x i ok|.mapUpdate t m k x=>a3L T fr t m k x|.insert t m k x=>a3L T fr t m k x|.range t x=>a8A T fr t x|.next x str=>b0d T fr x str|.extract x i=>a6n T fr x i|_=>M.fail
def a5g (fr:List Value)(f:Operand)(args:List Operand)(k:Nat->List Value->M Value):M Value:=ev T fr f λv=>evs T fr args λvs=>match v with
 |.func fn first captured=>match fn with|.func g=>k g (D7 first.toList (D7 vs captured.toList))|_=>M.fail
 |_=>M.fail
def b1x (call:Nat->List Value->M Value)(fr:List Value)(c:Call):M Value:=match c.callee with|.value f=>a5g T fr f c.args.toList call|.builtin b=>a0N p T fr b c.args c.argTypes|_=>M.fail
def b1i:Op->Option Call|.call c=>some c|_=>none
def Z0 (call:Nat->List Value->M Value)(fr:List Value)(o:Op):M Value:=match b1i o with|some c=>b1x p T call fr c|none=>O7 p T fr o
inductive Ex where
 | normal
 | exit (id:Nat)
 | ret
def a1O (b:Bool):Value->Bool|.bool b'=>b'==b|_=>false
def a4l (ops:List Oper)(j:Nat):Option Tmp:=match a0l ops j with|none=>none|some o=>o.dst
def a1U (ops:List Oper)(fr:List Value)(o:Oper):Bool:=match o.guard with|none=>true|some jb=>match a4l ops jb.1 with|some t=>a1O jb.2 (C9 fr t)|none=>false
def Q6 (fr:List Value)(o:Oper)(v:Value):List Value:=match o.dst with|some t=>a4O fr t v|none=>fr
def a3S (fr:List Value)(rs:List ResultVar):M (List Value):=List.rec (motive:=λ_=>M (List Value)) (M.pure []) (λr _ ih=>match r with|.tmp t=>M.bind ih λvs=>M.pure (C9 fr t::vs)|.cell a t=>a0G (C9 fr a) λad=>M.bind (a4K T t ad) λv=>M.bind ih λvs=>M.pure (v::vs)) rs
def a7I:List Value->Value|[]=>.tuple ⟨[]⟩|v::vs=>match vs with|[]=>v|w::ws=>.tuple ⟨v::w::ws⟩
def a6c (call:Nat->List Value->M Value)(ops os:List Oper):List Value->M (List Value):=List.rec (motive:=λ_=>List Value->M (List Value)) M.pure (λo _ ih fr=>match a1U ops fr o with|true=>M.bind (Z0 p T call fr o.op) λv=>a7Y v λv=>ih (Q6 fr o v)|false=>ih (Q6 fr o undef)) os
def M.foot {α:Type}(m:M α):M (α×(List Nat×List Nat)):=λs=>match m ⟨s.c,s.h,[],[]⟩with|none=>none|some x=>some ((x.1,(x.2.r,x.2.w)),⟨x.2.c,x.2.h,D7 x.2.r s.r,D7 x.2.w s.w⟩)
def a2s (call:Nat->List Value->M Value)(ops os:List Oper):List Value->M (List Value×List (List Nat×List Nat)):=List.rec (motive:=λ_=>List Value->M (List Value×List (List Nat×List Nat))) (λfr=>M.pure (fr,[])) (λo _ ih fr=>match a1U ops fr o with|true=>M.bind (M.foot (Z0 p T call fr o.op)) λx=>a7Y x.1 λv=>M.bind (ih (Q6 fr o v)) λy=>M.pure (y.1,x.2::y.2)|false=>M.bind (ih (Q6 fr o undef)) λy=>M.pure (y.1,([],[])::y.2)) os
def a2M (i:Nat)(l:List Nat):Bool:=List.rec (motive:=λ_=>Bool) false (λx _ ih=>match Nat.beq i x with|true=>true|false=>ih) l
def a0e (l m:List Nat):Bool:=J2 (λi=>!(a2M i m)) l
def b1A (os:List Operand):List Nat:=List.rec (motive:=λ_=>List Nat) [] (λo _ ih=>match o with|.tmp t=>t::ih|_=>ih) os
def a3o (ops:List Oper)(o:Oper):List Nat:=match o.guard with|none=>b1A o.op.operands.toList|some jb=>match a4l ops jb.1 with|some t=>t::b1A o.op.operands.toList|none=>b1A o.op.operands.toList
def a2D (o:Oper):List Nat:=match o.dst with|some t=>[t]|none=>[]
def free2 (ops:List Oper)(x y:Oper×(List Nat×List Nat)):Bool:=a0e x.2.2 y.2.1&&a0e x.2.2 y.2.2&&a0e y.2.2 x.2.1&&a0e (a2D x.1) (a3o ops y.1)&&a0e (a2D x.1) (a2D y.1)&&a0e (a2D y.1) (a3o ops x.1)
def a6a (ps:List (List Nat))(e:Edge):List Nat:=match Region.binds .any e with
 |true=>match a0l ps e.on with|some l=>e.on::l|none=>[]
 |false=>[]
def a4J (f:Edge->List Nat)(l:List Edge):List Nat:=List.rec (motive:=λ_=>List Nat) [] (λe _ ih=>D7 (f e) ih) l
def a7H (ops:List Oper)(pj:List Nat)(y:Oper×(List Nat×List Nat))(xs:List (Oper×(List Nat×List Nat))):Nat->Bool:=List.rec (motive:=λ_=>Nat->Bool) (λ_=>true) (λx _ ih i=>match a2M i pj||free2 ops x y with|true=>ih (i+1)|false=>false) xs
def a7F (n:Nat)(l:List Edge):Bool:=J2 (λe=>match Region.binds .any e with|true=>Nat.blt e.on n|false=>true) l
def a2V (ops:List Oper)(ys:List (Oper×(List Nat×List Nat))):List (Oper×(List Nat×List Nat))->List (List Nat)->Nat->Bool:=List.rec (motive:=λ_=>List (Oper×(List Nat×List Nat))->List (List Nat)->Nat->Bool) (λ_ _ _=>true) (λy _ ih xs ps n=>match a7F n y.1.after.toList&&a7H ops (a4J (a6a ps) y.1.after.toList) y xs 0 with|true=>ih (D7 xs [y]) (D7 ps [a4J (a6a ps) y.1.after.toList]) (n+1)|false=>false) ys
def a4H {α β:Type}(l:List α):List β->List (α×β):=List.rec (motive:=λ_=>List β->List (α×β)) (λ_=>[]) (λa _ ih m=>match m with|[]=>[]|b::m=>(a,b)::ih m) l
def region (call:Nat->List Value->M Value)(ops:List Oper)(draw:Bool)(fr:List Value):M (Ex×List Value):=match draw with|false=>M.bind (a6c p T call ops ops fr) λfr'=>M.pure (.normal,fr')|true=>M.bind (a2s p T call ops ops fr) λy=>M.guard (a2V ops (a4H ops y.2) [] [] 0)<|M.pure (.normal,y.1)
def c6R (call:Nat->List Value->M Value)(ih:Code->List Value->M (Ex×List Value))(c:Code)(fr:List Value):M (Ex×List Value):=match c with
 |.skip=>M.pure (.normal,fr)|.region _ ops draw=>region p T call ops.toList draw fr|.seq a b=>M.bind (ih a fr) λr=>match r.1 with|.normal=>ih b r.2|.exit id=>M.pure (.exit id,r.2)|.ret=>M.pure (.ret,r.2)
 |.cond x a b=>M.obind (X7 T fr x) λv=>match v with
  |.bool t=>match t with|true=>ih a fr|false=>ih b fr
  |_=>M.fail
 |.block id b=>M.bind (ih b fr) λr=>match r.1 with
  |.normal=>M.pure (.normal,r.2)|.exit id'=>match Nat.beq id' id with|true=>M.pure (.normal,r.2)|false=>M.pure (.exit id',r.2)
  |.ret=>M.pure (.ret,r.2)
 |.loop b=>fList fr λfr=>M.bind (ih b fr) λr=>match r.1 with|.normal=>ih (.loop b) r.2|.exit id=>M.pure (.exit id,r.2)|.ret=>M.pure (.ret,r.2)
 |.exit id=>M.pure (.exit id,fr)|.ret=>M.pure (.ret,fr)|_=>M.fail
def a6J (call:Nat->List Value->M Value)(n:Nat):Code->List Value->M (Ex×List Value):=Nat.rec (motive:=λ_=>Code->List Value->M (Ex×List Value)) (λ_ _=>M.fail) (λ_ ih=>c6R p T call ih) n
def a0m (n:Nat):List Value:=Nat.rec (motive:=λ_=>List Value) [] (λ_ ih=>undef::ih) n
def d7H:Next->Option Value|.value v=>some v|_=>none
def b7b (f:Nat)(args:List Value):M Value:=M.guard (J2 plain args)<|M.obind (a0J p (callFunc f ⟨args⟩)) λx=>M.obind (d7H x) λv=>M.guard (K9 3 v)<|M.pure v
def b1k (fn:Func)(r:Ex×List Value):M Value:=match r.1 with|.exit _=>M.fail|_=>M.bind (a3S T r.2 fn.results.toList) λvs=>M.pure (a7I vs)
def enter (call:Nat->List Value->M Value)(n:Nat)(fn:Func)(f:Nat)(args:List Value):M Value:=match fn.body with|none=>b7b p f args|some c=>M.bind (a6J p T call n c (D7 args (a0m (fn.ntmps-x8 args)))) λr=>b1k T fn r
def a7g (ext:Nat->Option (List Value->M Value))(n:Nat):Nat->List Value->M Value:=Nat.rec (motive:=λ_=>Nat->List Value->M Value) (λ_ _=>M.fail) (λn ih f args=>match ext f with|some g=>g args|none=>M.obind (T.funcs.get f) λfn=>enter p T ih n fn f args) n
end
end Go.V
end
section
noncomputable section
namespace Go.V
inductive CR where
 | ret (v:Value)
 | pan (v:Value)
inductive Xc where
 | normal
 | exit (id:Nat)
 | ret
 | pan (v:Value)
abbrev J7:=Nat->List Value->M CR
def bcase {α:Type}(b:Bool)(x y:α):α:=Bool.rec (motive:=λ_=>α) y x b
def a5R {β:Type}(v:Value)(x y:M β):M β:=match v with|.bool b=>bcase b x y|_=>M.fail
def a1s {β:Type}(r:CR)(kn kp:Value->M β):M β:=match r with|.ret v=>kn v|.pan v=>kp v
def U8 {β:Type}(x:Xc)(kn:M β)(ke:Nat->M β)(kr:M β)(kp:Value->M β):M β:=match x with|.normal=>kn|.exit id=>ke id|.ret=>kr|.pan v=>kp v
def U4 {σ:Type}(body:σ->M (Xc×σ))(n:Nat):σ->M (Xc×σ):=Nat.rec (motive:=λ_=>σ->M (Xc×σ)) (λ_=>M.fail) (λ_ ih x=>M.bind (body x) λr=>U8 r.1 (ih r.2) (λid=>M.pure (.exit id,r.2)) (M.pure (.ret,r.2)) (λv=>M.pure (.pan v,r.2))) n
def c2Y {α:Type}(l:List Value):(List Value->α)->α:=List.rec (motive:=λ_=>(List Value->α)->α) (λk=>k []) (λx _ ih k=>a7Y x λx=>ih λl=>k (x::l)) l
def c5U (body:List Value->M (Xc×List Value))(n:Nat):List Value->M (Xc×List Value):=Nat.rec (motive:=λ_=>List Value->M (Xc×List Value)) (λ_=>M.fail) (λ_ ih x=>M.bind (body x) λr=>c2Y r.2 λxs=>U8 r.1 (ih xs) (λid=>M.pure (.exit id,xs)) (M.pure (.ret,xs)) (λv=>M.pure (.pan v,xs))) n
structure Cb where
 bv:∀ β:Type,M Value→(Value→M β)→M β
 bc:∀ β:Type,M CR→(Value→M β)→(Value→M β)→M β
 lp:(List Value→M (Xc×List Value))→Nat→List Value→M (Xc×List Value)
 bj:∀ β:Type,M (Xc×List Value)→(Xc→List Value→M β)→M β
def o9:Cb:=⟨λ_ m k=>M.bind m k,λ_ m kn kp=>M.bind m λr=>a1s r kn kp,U4,λ_ m k=>M.bind m λr=>k r.1 r.2⟩
def a3R:Cb:=⟨λ_ m k=>M.bind m λv=>a7Y v k,λ_ m kn kp=>M.bind m λr=>a1s r (λv=>a7Y v kn) kp,c5U,λ_ m k=>M.bind m λr=>c2Y r.2 λxs=>k r.1 xs⟩
def Q7 (fr:List Value)(W:List Nat):List Value:=U0 (C9 fr) W
def a5K (vs:List Value)(W:List Nat):Nat->List Value->List Value:=List.rec (motive:=λ_=>Nat->List Value->List Value) (λ_ fr=>fr) (λt _ ih i fr=>ih (Nat.succ i) (a4O fr t (C9 vs i))) W
def L9 (W:List Nat)(vs fr:List Value):List Value:=a5K vs W 0 fr
section
variable (p:Program)(T:Tab)
def c1i:Nat->List Value->M Value:=λ_ _=>M.fail
def a1P (call:J7):Nat->List Value->M Value:=λf vs=>M.bind (call f vs) λr=>a1s r M.pure λ_=>M.fail
def b1f (v:Value)(vs:List Value):Option (Nat×List Value):=match v with
 |.func fn first captured=>match fn with|.func g=>some (g,D7 first.toList (D7 vs captured.toList))|_=>none
 |_=>none
def a4S (fr:List Value)(f:Operand)(args:List Operand):Option (Nat×List Value):=match X7 T fr f with
 |some v=>match a0T T fr args with|some vs=>b1f v vs|none=>none
 |none=>none
def a5e:Value->Bool|.iface _ _=>true|_=>false
def a3U (cb:Cb)(call:J7){β:Type}(fr:List Value)(o:Op)(kn kp:Value->M β):M β:=match o with
 |.move x=>M.obind (X7 T fr x) kn|.assign x=>M.obind (X7 T fr x) kn|.call c=>match c.callee with|.value f=>M.obind (a4S T fr f c.args.toList) λga=>cb.bc β (call ga.1 ga.2) kn kp|.builtin b=>cb.bv β (a0N p T fr b c.args c.argTypes) kn|_=>M.fail
 |.panic x=>M.obind (X7 T fr x) λv=>M.guard (a5e v) (kp v)|o=>cb.bv β (O7 p T fr o) kn
def a0p (cb:Cb)(pn:Bool)(call:J7){β:Type}(os:List Oper):List Value->(Xc->List Value->M β)->M β:=List.rec (motive:=λ_=>List Value->(Xc->List Value->M β)->M β) (λfr k=>k .normal fr) (λo _ ih fr k=>a3U p T cb call fr o.op (λv=>ih (Q6 fr o v) k) (λv=>bcase pn (k (.pan v) fr) M.fail)) os
def a4h:Option (Nat×Bool)->Option (Nat×Bool)->Bool|none,none=>true|some a,some b=>Nat.beq a.1 b.1&&(a.2==b.2)|_,_=>false
def a1R (os:List Oper):List (Option (Nat×Bool)×List Oper):=List.rec (motive:=λ_=>List (Option (Nat×Bool)×List Oper)) [] (λo _ ih=>match ih with|[]=>[(o.guard,[o])]|g::gs=>match a4h o.guard g.1 with|true=>(g.1,o::g.2)::gs|false=>(o.guard,[o])::g::gs) os
def O5 (os:List Oper):List Nat:=List.rec (motive:=λ_=>List Nat) [] (λo _ ih=>match o.dst with|some t=>t::ih|none=>ih) os
def a8k (cb:Cb)(pn:Bool)(call:J7){β:Type}(ops:List Oper)(gs:List (Option (Nat×Bool)×List Oper)):List Value->(Xc->List Value->M β)->M β:=List.rec (motive:=λ_=>List Value->(Xc->List Value->M β)->M β) (λfr k=>k .normal fr) (λg _ ih fr k=>match g.1 with|none=>a0p p T cb pn call g.2 fr λex fr'=>U8 ex (ih fr' k) (λ_=>M.fail) M.fail λv=>k (.pan v) fr'|some jb=>M.obind (a4l ops jb.1) λt=>M.guard (!(a2M t (O5 g.2)))<|cb.bj β (bcase (a1O jb.2 (C9 fr t)) (a0p p T cb pn call g.2 fr λex fr'=>M.pure (ex,Q7 fr' (O5 g.2))) (M.pure (.normal,a0m (x8 (O5 g.2))))) λex vs=>U8 ex (ih (L9 (O5 g.2) vs fr) k) (λ_=>M.fail) M.fail λv=>bcase pn (k (.pan v) (L9 (O5 g.2) vs fr)) M.fail) gs
def b5H (call:J7)(ops:List Oper)(n:Nat)(U:List Nat)(vs:List Value)(W:List Nat):M (Xc×List Value):=M.bind (a2s p T (a1P call) ops ops (L9 U vs (a0m n))) λy=>M.guard (a2V ops (a4H ops y.2) [] [] 0)<|M.pure (.normal,Q7 y.1 W)
def a4w (ops os:List Oper):List Nat:=List.rec (motive:=λ_=>List Nat) [] (λo _ ih=>D7 (a3o ops o) ih) os
def c1Q (i:Nat)(l:List Nat):List Nat:=match a2M i l with|true=>l|false=>i::l
def a2O (l:List Nat):List Nat:=List.rec (motive:=λ_=>List Nat) [] (λi _ ih=>c1Q i ih) l
def b7F (cb:Cb)(pn:Bool)(call:J7){β:Type}(ops:List Oper)(draw:Bool)(fr:List Value)(k:Xc->List Value->M β):M β:=match draw with|false=>a8k p T cb pn call ops (a1R ops) fr k|true=>cb.bj β (b5H p T call ops (x8 fr) (a2O (a4w ops ops)) (Q7 fr (a2O (a4w ops ops))) (O5 ops)) λ_ vs=>k .normal (L9 (O5 ops) vs fr)
def a5j (call:J7)(ops os:List Oper):List Value->M (Xc×List Value):=List.rec (motive:=λ_=>List Value->M (Xc×List Value)) (λfr=>M.pure (.normal,fr)) (λo _ ih fr=>match a1U ops fr o with|true=>a3U p T o9 call fr o.op (λv=>ih (Q6 fr o v)) (λv=>M.pure (.pan v,fr))|false=>ih (Q6 fr o undef)) os
def b3Y (call:J7)(ops:List Oper)(draw:Bool)(fr:List Value):M (Xc×List Value):=match draw with|false=>a5j p T call ops ops fr|true=>M.bind (a2s p T (a1P call) ops ops fr) λy=>M.guard (a2V ops (a4H ops y.2) [] [] 0)<|M.pure (.normal,y.1)
def a6j (id:Nat)(x:Xc):Xc:=match x with
 |.exit id'=>match Nat.beq id' id with|true=>.normal|false=>.exit id'
 |x=>x
def a0n (N:Nat)(call:J7):Code->List Value->M (Xc×List Value)|.skip,fr=>M.pure (.normal,fr)|.region _ ops draw,fr=>b3Y p T call ops.toList draw fr|.seq a b,fr=>M.bind (a0n N call a fr) λr=>U8 r.1 (a0n N call b r.2) (λid=>M.pure (.exit id,r.2)) (M.pure (.ret,r.2)) (λv=>M.pure (.pan v,r.2))|.cond x a b,fr=>M.obind (X7 T fr x) λv=>a5R v (a0n N call a fr) (a0n N call b fr)|.block id b,fr=>M.bind (a0n N call b fr) λr=>M.pure (a6j id r.1,r.2)|.loop b,fr=>U4 (a0n N call b) N fr|.exit id,fr=>M.pure (.exit id,fr)|.ret,fr=>M.pure (.ret,fr)|_,_=>M.fail
inductive Pl where
 | d
 | s (j:Option (List Nat)) (a b:Pl)
 | l (W:List Nat) (a:Pl)
def Pl.a:Pl->Pl|.d=>.d|.s _ a _=>a|.l _ a=>a
def Pl.b:Pl->Pl|.s _ _ b=>b|_=>.d
def Pl.j:Pl->Option (List Nat)|.s j _ _=>j|_=>none
def Pl.w:Pl->List Nat|.l W _=>W|_=>[]
def a0L:Code->List Nat|.region _ ops _=>O5 ops.toList|.seq a b=>D7 (a0L a) (a0L b)|.cond _ a b=>D7 (a0L a) (a0L b)|.block _ b=>a0L b|.loop b=>a0L b|_=>[]
def b0F (l m:List Nat):Bool:=J2 (λi=>a2M i m) l
def a2u:Code->List Nat|.seq a b=>D7 (a2u a) (a2u b)|.cond _ a b=>D7 (a2u a) (a2u b)|.block _ b=>a2u b|.loop b=>a2u b|.exit id=>[id]|_=>[]
def hasRet:Code->Bool|.seq a b=>hasRet a||hasRet b|.cond _ a b=>hasRet a||hasRet b|.block _ b=>hasRet b|.loop b=>hasRet b|.ret=>true|_=>false
def a4c {β:Type}(E:List Nat)(id:Nat)(k:Xc->M β):M β:=List.rec (motive:=λ_=>M β) M.fail (λe _ ih=>bcase (Nat.beq id e) (k (.exit e)) ih) E
def b4h {β:Type}(pn:Bool)(E:List Nat)(n r:Bool)(ex:Xc)(k:Xc->M β):M β:=U8 ex (bcase n (k .normal) M.fail) (λid=>a4c E id k) (bcase r (k .ret) M.fail) (λv=>bcase pn (k (.pan v)) M.fail)
def O1 (cb:Cb)(pn:Bool)(N:Nat)(call:J7):Code->Pl->(β:Type)->List Value->(Xc->List Value->M β)->M β
 |.skip,_,_,fr,k=>k .normal fr|.region _ ops draw,_,_,fr,k=>b7F p T cb pn call ops.toList draw fr k|.seq a b,pl,β,fr,k=>match pl.j with|none=>O1 cb pn N call a pl.a β fr λex fr'=>U8 ex (O1 cb pn N call b pl.b β fr' k) (λid=>k (.exit id) fr') (k .ret fr') (λv=>k (.pan v) fr')|some W=>M.guard (b0F (a0L a) W)<|cb.bj β (O1 cb pn N call a pl.a (Xc×List Value) fr λex fr'=>M.pure (ex,Q7 fr' W)) λex vs=>b4h pn (a2O (a2u a)) true (hasRet a) ex λx=>U8 x (O1 cb pn N call b pl.b β (L9 W vs fr) k) (λid=>k (.exit id) (L9 W vs fr)) (k .ret (L9 W vs fr)) (λv=>k (.pan v) (L9 W vs fr))
 |.cond x a b,pl,β,fr,k=>M.obind (X7 T fr x) λv=>a5R v (O1 cb pn N call a pl.a β fr k) (O1 cb pn N call b pl.b β fr k)|.block id b,pl,β,fr,k=>O1 cb pn N call b pl.a β fr λex fr'=>k (a6j id ex) fr'|.loop b,pl,β,fr,k=>M.guard (b0F (a0L b) pl.w)<|cb.bj β (cb.lp (λxs=>O1 cb pn N call b pl.a (Xc×List Value) (L9 pl.w xs fr) λex fr'=>M.pure (ex,Q7 fr' pl.w)) N (Q7 fr pl.w)) λex vs=>b4h pn (a2O (a2u b)) false (hasRet b) ex λx=>k x (L9 pl.w vs fr)|.exit id,_,_,fr,k=>k (.exit id) fr|.ret,_,_,fr,k=>k .ret fr|_,_,_,_,_=>M.fail
def a3M (cb:Cb){β:Type}(fr:List Value)(rs:List ResultVar):(List Value->M β)->M β:=List.rec (motive:=λ_=>(List Value->M β)->M β) (λk=>k []) (λr _ ih k=>match r with|.tmp t=>ih λvs=>k (C9 fr t::vs)|.cell a t=>a0G (C9 fr a) λad=>cb.bv β (a4K T t ad) λv=>ih λvs=>k (v::vs)) rs
def c1Z (cb:Cb)(fn:Func)(ex:Xc)(fr:List Value):M CR:=U8 ex (a3M T cb fr fn.results.toList λvs=>M.pure (.ret (a7I vs))) (λ_=>M.fail) (a3M T cb fr fn.results.toList λvs=>M.pure (.ret (a7I vs))) λv=>M.pure (.pan v)
def a3j (cb:Cb)(pn:Bool)(N:Nat)(call:J7)(fn:Func)(c:Code)(pl:Pl)(args:List Value):M CR:=O1 p T cb pn N call c pl CR (D7 args (a0m (fn.ntmps-x8 args))) λex fr=>c1Z T cb fn ex fr
def a6R (N:Nat)(call:J7)(fn:Func)(f:Nat)(args:List Value):M CR:=match fn.body with|none=>M.bind (b7b p f args) λv=>M.pure (.ret v)|some c=>M.bind (a0n p T N call c (D7 args (a0m (fn.ntmps-x8 args)))) λr=>c1Z T o9 fn r.1 r.2
def b6I (ext:Nat->Option (List Value->M Value))(N n:Nat):J7:=Nat.rec (motive:=λ_=>J7) (λ_ _=>M.fail) (λ_ ih f args=>match ext f with|some g=>M.bind (g args) λv=>M.pure (.ret v)|none=>M.obind (T.funcs.get f) λfn=>a6R p T N ih fn f args) n
abbrev a2t:=Trie (J7->List Value->M CR)
def o8 (sh:a2t)(n:Nat):J7:=Nat.rec (motive:=λ_=>J7) (λ_ _=>M.fail) (λ_ ih f args=>M.obind (sh.get f) λg=>g ih args) n
end
end Go.V
end
