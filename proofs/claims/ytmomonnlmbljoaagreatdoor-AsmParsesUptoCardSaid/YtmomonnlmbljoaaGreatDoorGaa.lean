import Derived.Test.YtmomonnlmbljoaaGreatDoorProg
import Derived.Laws.Cells
import Derived.Below
import Derived.Laws.AppendOwn
import Derived.Laws.Tables
import Derived.Great.BuildSlice
import Derived.Lib.IndexBytes
import Derived.Laws.BytesString
import Derived.Orders
import Derived.LoopN
import Derived.RangeFuncKeeps
import Derived.Lib.Fields
import Derived.KernelRfl
import Derived.Laws.StructEq
import Derived.Lib.IndexMore
import Derived.Lib.Join
import Derived.Lib.Repeat
import Derived.Shelf.LaysM
import Derived.Shelf.Strings.Fields
import Derived.Shelf.Strings.OnBuilder
import Derived.Shelf.Strings.Repeat
import Derived.Shelf.Strings.Search3
import Derived.Shelf.Spec.BitsCarry
import Derived.Shelf.Strconv.Itoa4
import Derived.Ground.NamesProg
import Derived.RangeFuncWrites
import Derived.RangeFuncLeaves
import Derived.Shelf.Abstract
import Derived.WalkKit
import Derived.OwnWalkIn
import Derived.TacticsInMore
import Derived.Shelf.Bits.Mul64
import Derived.Lib.ItoaNum
import Derived.Lib.AppendIntMem
import Derived.ProofKit
import Derived.Deep.Slices
import Derived.OpenShut
import Derived.Handed
import Derived.HandedShaped
import Derived.LaidLaws
import Derived.Lay
import Derived.JoinedOf
import Derived.SevenTiedAt
import Derived.Deep.DeepHandedRow
import Derived.Deep.DeepWitnessRowRef
import GoSem.Step
set_option maxRecDepth 1000000
set_option maxHeartbeats 4000000
set_option linter.unusedVariables false
set_option linter.unusedSimpArgs false
namespace Go
theorem om{a b:Prop}(x:a)(y:b):a/\b:=⟨x,y⟩
abbrev xD:=@Nat.le_refl
abbrev xC:=@List.getElem?_eq_some_iff
abbrev wz:=@List.getElem?_eq_getElem
abbrev wy:=@decide_eq_false
abbrev ww:=@decide_eq_true
abbrev wu:=@Nat.lt_succ_self
abbrev wo:=@Nat.eq_of_beq_eq_true
abbrev wm:=@Eq.trans
abbrev wh:=@Bool.and_eq_true
abbrev wZ:=@Nat.le_succ
abbrev wY:=@Nat.lt_of_lt_of_le
abbrev wX:=@Nat.add_right_comm
abbrev wW:=@List.length_append
abbrev wV:=@Go.Result.andThen_ok
abbrev wU:=@List.length_cons
abbrev wT:=@List.getElem?_eq_none
abbrev wR:=@List.append_nil
abbrev wQ:=@Go.Sem.run_bind
abbrev wP:=@of_decide_eq_true
abbrev wO:=@congrArg
abbrev wN:=@List.mem_singleton
abbrev wM:=@Nat.zero_add
abbrev wL:=@Nat.le_trans
abbrev wK:=@List.length_map
abbrev wJ:=@Nat.le_of_ble_eq_true
abbrev wI:=@Go.Sem.run_pure
abbrev wH:=@List.getElem?_append_right
abbrev wG:=@List.mem_of_getElem?
abbrev wF:=@Bool.false_or
abbrev wE:=@List.getElem?_map
abbrev vz:=@List.length_drop
abbrev vw:=@List.getElem?_append_left
abbrev vv:=@Int.ofNat_lt
abbrev vo:=@List.length_reverse
abbrev vg:=@if_neg
abbrev vZ:=@Nat.add_zero
abbrev vY:=@Nat.zero_le
abbrev vX:=@if_pos
abbrev vW:=@List.mem_cons_of_mem
abbrev vV:=@List.drop_eq_getElem_cons
abbrev vU:=@List.flatMap_cons
abbrev vT:=@List.append_assoc
abbrev vS:=@Bool.false_eq_true
abbrev vR:=@of_decide_eq_false
abbrev vQ:=@Nat.mul_one
abbrev vP:=@Bool.true_or
abbrev vN:=@List.mem_append
abbrev vM:=@List.length_nil
abbrev vK:=@List.ext_getElem?
abbrev vJ:=@Nat.lt_irrefl
abbrev vI:=@List.length_eq_zero_iff
abbrev vH:=@List.drop_of_length_le
abbrev vG:=@List.mem_cons
abbrev vF:=@Array.length_toList
abbrev vE:=@Bool.true_and
abbrev vD:=@decide_false
abbrev vC:=@List.mem_cons_self
abbrev vB:=@List.getElem_mem
abbrev uz:=@decide_eq_true_eq
abbrev uy:=@Bool.not_false
abbrev uw:=@List.mem_range
abbrev uu:=@List.nil_append
abbrev ut:=@List.map_append
abbrev uq:=@decide_eq_false_iff_not
abbrev um:=@Nat.add_sub_cancel_left
abbrev uk:=@Bool.and_self
abbrev uj:=@List.mem_map
abbrev ui:=@List.flatMap_singleton
abbrev uh:=@decide_true
abbrev ug:=@List.drop_zero
abbrev uf:=@Bool.false_and
abbrev uZ:=@List.flatMap_append
abbrev uY:=@Go.World.cell?_setCell_same'
abbrev uX:=@List.getElem?_eq_none_iff
abbrev uW:=@List.getElem?_drop
abbrev uV:=@Nat.lt_or_ge
abbrev uU:=@Nat.lt_of_le_of_lt
abbrev uT:=@Go.cell_kept
abbrev uS:=@if_false
abbrev uR:=@Go.Proofs.Tryz.underlying5
abbrev uQ:=@Go.Proofs.Tryz.underlying9
abbrev uP:=@List.getElem?_take
abbrev uO:=@Nat.ble_eq_true_of_le
abbrev uM:=@Bool.and_false
abbrev uL:=@Int.ofNat_eq_natCast
abbrev uK:=@Go.World.cell?_of_block
abbrev uJ:=@Option.some.inj
abbrev uI:=@List.getElem?_cons_succ
abbrev uH:=@Go.KeepsOthers.setCell
abbrev uG:=@Nat.mod_eq_of_lt
abbrev uF:=@Nat.and_le_right
abbrev uE:=@Nat.blt_eq
abbrev uD:=@List.mem_iff_getElem?
abbrev uC:=@Bool.and_true
abbrev tq:=@List.size_toArray
abbrev tZ:=@Array.getElem?_eq_getElem
abbrev tY:=@Nat.add_mul
abbrev tX:=@List.map_map
abbrev tV:=@Nat.lt_trans
abbrev tT:=@Nat.mul_zero
abbrev tQ:=@List.length_take
abbrev tO:=@Array.toList_append
abbrev tN:=@Nat.add_assoc
abbrev tL:=@UInt8.toNat_inj
abbrev tK:=@Go.RowKit.Below.refl
abbrev tJ:=@Bool.eq_iff_iff
abbrev tH:=@Go.grownBy_putObj'
abbrev tF:=@List.take_of_length_le
abbrev tC:=@Array.toList_replicate
abbrev sw:=@Nat.pow_add
abbrev sj:=@List.eq_nil_of_length_eq_zero
abbrev si:=@Bool.not_eq_true'
abbrev sZ:=@Nat.lt_succ_of_lt
abbrev sW:=@Array.getElem?_modify
abbrev sV:=@List.dropLast_eq_take
abbrev sU:=@Array.getD_eq_getD_getElem?
abbrev sS:=@List.all_eq_true
abbrev sQ:=@List.cons_append
abbrev sP:=@Go.Proofs.Tryz.underlying3
abbrev sO:=@Go.Proofs.Tryz.underlying4
abbrev sN:=@decide_eq_decide
abbrev sM:=@Array.getElem?_eq_some_iff
abbrev sK:=@Bool.not_true
abbrev sJ:=@Go.Proofs.Tryz.zeroValue5
abbrev sI:=@Nat.eq_zero_or_pos
abbrev sH:=@Option.isSome_iff_exists
abbrev sG:=@Nat.sub_zero
abbrev sF:=@Go.Proofs.Tryz.underlying145
abbrev sD:=@Int.ofNat_le
abbrev rz:=@List.getElem?_set
abbrev rq:=@Go.Proofs.Tryz.zeroValue145
abbrev rZ:=@Go.World.frozen?_of_block
abbrev rY:=@List.drop_eq_nil_of_le
abbrev rX:=@List.map_cons
abbrev rW:=@Nat.le_add_right
abbrev rV:=@List.range'_succ
abbrev rU:=@Array.all_eq_true_iff_forall_mem
abbrev rT:=@Go.run_takeDeferred
abbrev rR:=@Array.getElem?_toList
abbrev rQ:=@if_true
abbrev rP:=@List.length_dropLast
abbrev rO:=@Option.map_some
abbrev rM:=@List.range_eq_range'
abbrev rJ:=@beq_iff_eq
abbrev rH:=@Go.Proofs.Tryz.zeroValue3
abbrev rG:=@Go.Proofs.Tryz.zeroValue4
abbrev rF:=@Go.Proofs.Tryz.sizeOf5
abbrev rE:=@Go.Proofs.Tryz.zeroValue9
abbrev qz:=@Array.replicate_succ
abbrev qy:=@Array.replicate_zero
abbrev qx:=@Nat.zero_mul
abbrev qw:=@Nat.succ_pos
abbrev qo:=@Bool.or_eq_false_iff
abbrev qm:=@List.take_append_of_le_length
abbrev ql:=@List.getElem_of_mem
abbrev qj:=@List.append_toArray
abbrev qh:=@List.length_pos_iff
abbrev qg:=@Ne.symm
abbrev qf:=@Array.getElem?_setIfInBounds
abbrev qc:=@Go.Proofs.Tryz.sizeOf145
abbrev qb:=@Nat.le_zero
abbrev qZ:=@Go.Proofs.Tryz.isAgg5
abbrev qY:=@Go.run_loadCells_list
abbrev qX:=@Go.Proofs.Tryz.underlying194
abbrev qW:=@Nat.eq_of_mul_eq_mul_right
abbrev qV:=@Go.Proofs.Tryz.isAgg145
abbrev qU:=@Go.ownFrom_below
abbrev qR:=@Nat.lt_trichotomy
abbrev qQ:=@Go.Proofs.Tryz.underlying38
abbrev qP:=@Go.Proofs.Tryz.zeroValue194
abbrev qO:=@Go.Proofs.Tryz.underlying23
abbrev qN:=@List.push_toArray
abbrev qM:=@List.take_add_one
abbrev qL:=@Go.World.cell?_setCell_other
abbrev qK:=@Array.ext'
abbrev qJ:=@Nat.mod_lt
abbrev qI:=@Bool.or_self
abbrev qH:=@Array.getElem?_push_size
abbrev qG:=@Go.callsIn_wide
abbrev qF:=@Go.Proofs.Tryz.underlying0
abbrev qE:=@Go.Proofs.Tryz.sizeOf3
abbrev qD:=@Go.Proofs.Tryz.sizeOf4
abbrev qC:=@Go.Proofs.Tryz.sizeOf9
abbrev qB:=@Bool.or_true
abbrev qA:=@List.take_length
abbrev pz:=@List.drop_length
abbrev pq:=@List.getElem?_cons_zero
abbrev pg:=@Go.World.block_lt_of_cell?
abbrev pY:=@Go.Input.okWide_of_okWideB
abbrev pX:=@Go.Oper.semAt_none
abbrev pW:=@Nat.div_le_self
abbrev pV:=@Go.Proofs.Tryz.zeroValue0
abbrev pU:=@Go.Proofs.Tryz.isAgg3
abbrev pR:=@Go.Proofs.Tryz.isAgg4
abbrev pQ:=@Go.Proofs.Tryz.isAgg9
abbrev pO:=@Go.frozen_kept
abbrev pM:=@Go.OwnFrom.and
abbrev pJ:=@Go.wp_loop_rounds
abbrev pI:=@List.drop_drop
abbrev pG:=@Go.Proofs.Tryz.sizeOf194
abbrev pF:=@Go.run_newObj
abbrev pE:=@Go.wp_cond_false
abbrev oz:=@Go.Proofs.Tryz.isAgg194
abbrev ow:=@Bool.or_false
abbrev oq:=@List.all_cons
theorem zy{p:Prop}(h:p:=by omega):p:=h
theorem zw{p:Prop}(h:p:=by kernel_rfl):p:=h
theorem zu{p:Prop}(h:p:=by grind):p:=h
theorem zq{p:Prop}(h:p:=by decide):p:=h
theorem zn{p:Prop}(h:p:=by simp):p:=h
theorem zm{p:Prop}(h:p:=by simp_all):p:=h
theorem zl{p:Prop}(h:p:=by grind[d9]):p:=h
theorem zk{p:Prop}(h:p:=by intro q;cases q):p:=h
theorem zi{p:Prop}(h:p:=by cases e):p:=h
theorem zg{p:Prop}(h:p:=by simp;omega):p:=h
theorem ze{p:Prop}(h:p:=by cases b<;>rfl):p:=h
theorem zb{p:Prop}(h:p:=by cases q):p:=h
theorem zZ{p:Prop}(h:p:=by cases h):p:=h
theorem zY{p:Prop}(h:p:=by cases e;rfl):p:=h
theorem zX{p:Prop}(h:p:=by simp only[o7]):p:=h
theorem zW{p:Prop}(h:p:=by grind[d9,o7]):p:=h
theorem zV{p:Prop}(h:p:=by dsimp only;omega):p:=h
theorem zU{p:Prop}(h:p:=by simp(disch:=omega)only[d9]):p:=h
theorem zT{p:Prop}(h:p:=by rw[uq];omega):p:=h
theorem zS{p:Prop}(h:p:=by simp(disch:=omega)only[hh1,d9]):p:=h
theorem zR{p:Prop}(h:p:=by simp(disch:=omega)only[hh1,d9,o7]):p:=h
theorem zQ{p:Prop}(h:p:=by rw[uz];omega):p:=h
theorem zP{p:Prop}(h:p:=by have:=hUc _ hi;omega):p:=h
theorem zO{p:Prop}(h:p:=by dsimp only;omega):p:=h
theorem zN{p:Prop}(h:p:=by have:=vv.1 h;omega):p:=h
theorem zM{p:Prop}(h:p:=by simp(disch:=omega)only[hh2,hs1,d9]):p:=h
theorem zL{p:Prop}(h:p:=by have:1000000<=NN:=zq;omega):p:=h
theorem zK{p:Prop}(h:p:=by simp(disch:=omega)only[hs1,d9]):p:=h
theorem zJ{p:Prop}(h:p:=by rw[hs c zy zy zy];grind[d9,o7]):p:=h
theorem zI{p:Prop}(h:p:=by obtain⟨_,q,_⟩:=k1;cases q):p:=h
theorem zH{p:Prop}(h:p:=by rw[a1d 3 bs.length (bs.length+1) k ab 0 (some g2) (wu _) zq,a5f]):p:=h
theorem zG{p:Prop}(h:p:=by rw[a2W,vo,wU];omega):p:=h
theorem zF{p:Prop}(h:p:=by have:=hs i zy k3;simp(disch:=try exact xE)only[d9]at this;exact this):p:=h
theorem zD{p:Prop}(h:p:=by rw[List.reverse_cons,uZ,ui]):p:=h
theorem zC{p:Prop}(h:p:=by rw[J4,a2e (by have:=hfl b0;show bs.length*3+2+1<=_;omega)];rfl):p:=h
theorem zB{p:Prop}(h:p:=by obtain⟨f1,f2,f3⟩:=hF c1 (xD _);have n1:Nat.beq c1 a=false:=V5 zy;have n2:Nat.beq c1 b=false:=V5 zy;simp only[a0W,a1v,O5,O4,a2p,a0N,O9,a1Q,a3v,a4w,n1,n2,f1,f2,f3,uk,uC,vE,uy]):p:=h
theorem zA{p:Prop}(h:p:=by show(match l[i]? with|none=>_|some n=>_)=_;rw[hi];simp only[hk,ht,ht2,G5,G6,Nat.reduceEqDiff,vD,uh,qI,eX,hop,f1];rfl):p:=h
theorem yz{p:Prop}(h:p:=by show bcase (Z0 n.k n.t) (bcase (decide ((L9 L n.t).2=0)) (bcase (hdI t) _ _) _) _=_;rw[m1,ww m2,eI];rfl):p:=h
theorem yx{p:Prop}(h:p:=by have:=H.z2;have h8:=hs.2.1;obtain⟨Y,hY,hLY⟩:=H.L;dsimp only;rw[hLY,wW];omega):p:=h
theorem yw{p:Prop}(h:p:=by rcases H with⟨rfl,rfl⟩|⟨a,rfl,rfl⟩|⟨a,cap,rfl,h1,h2,h3,h4⟩;exact VR.plain rfl;exact VR.slice (a7e hj) (xD _) zq (xD _) (Or.inl rfl) (Or.inl rfl);exact VR.slice (a7e hj) (xD _) zq h1 (Or.inr h2) (Or.inr ⟨rfl,by simp[pOf],λh=>zZ⟩)):p:=h
theorem yu{p:Prop}(h:p:=by apply vK;intro i;cases hi:vs[i]? with|none=>exact wT (by rw[r.len];simp_all)|some y=>obtain⟨y',q1,q2⟩:=r.get? hi;rw[q1,q2.eq_of_plain ((R5 _ _).1 hp _ (wG hi))]):p:=h
theorem yo{p:Prop}(h:p:=by unfold isW;rw[hi]):p:=h
theorem yn{p:Prop}(h:p:=by unfold a0u;rw[hi]):p:=h
theorem ym{p:Prop}(h:p:=by rw[hs j zy zy k2];grind[d9]):p:=h
theorem yl{p:Prop}(h:p:=by rw[a3s sh n f _ h,a4q];rfl):p:=h
theorem yj{p:Prop}(h:p:=by show i+1<_;omega):p:=h
theorem yg{p:Prop}(h:p:=by simp(disch:=omega)only[d9]):p:=h
theorem yf{p:Prop}(h:p:=by show(w.heap.push _)[w.heap.size]?=_;simp):p:=h
theorem yc{p:Prop}(h:p:=by rw[wW];grind):p:=h
theorem yZ{p:Prop}(h:p:=by rw[wW];omega):p:=h
theorem yY{p:Prop}(h:p:=by simp(disch:=omega)only[d9,o7]):p:=h
theorem yX{p:Prop}(h:p:=by have:=wO List.tail hd;simpa using this):p:=h
theorem yV{p:Prop}(h:p:=by simp(disch:=first|exact dx|fail)only[d9]):p:=h
theorem yU{p:Prop}(h:p:=by rw[wN]at hi hj;omega):p:=h
theorem yT{p:Prop}(h:p:=by simp only[uL];omega):p:=h
theorem yS{p:Prop}(h:p:=by show bcase (decide (b.toNat=45)||decide (b.toNat=43)) _ _=_;rw[h45,h43,u5];rfl):p:=h
theorem yR{p:Prop}(h:p:=by show bcase (decide (b.toNat=45)||decide (b.toNat=43)) _ _=_;rw[h45,h43];rfl):p:=h
theorem yQ{p:Prop}(h:p:=by have:=wO List.length hd;rw[vz]at this;simp_all):p:=h
theorem yP{p:Prop}(h:p:=by have:=H.z2;have h8:=hs.2.2;have h9:=H.lb;dsimp only;omega):p:=h
theorem yO{p:Prop}(h:p:=by unfold M8;rw[hi];show bcase (Z0 n.k n.t) _ _=_;rw[q1];rfl):p:=h
theorem yN{p:Prop}(h:p:=by show bcase (decide (b.toNat=45)||_) _ _=_;rw[h45,u5];rfl):p:=h
theorem yM{p:Prop}(h:p:=by obtain⟨a,e,rfl,hor⟩:=H;refine⟨a,e,rfl,?_⟩;grind):p:=h
theorem yL{p:Prop}(h:p:=by by_cases hb:c b;exact hb;cases hm:m b with|none=>rw[V.dom b hb hm]at hc;cases hc|some x=>obtain⟨_,_,cs',ds,e1,_⟩:=V.new b x.1 x.2 hm;rw[e1]at hc;cases hc):p:=h
theorem yK{p:Prop}(h:p:=by generalize hv1:Value.slice (some ad') len cap=z' at p4;generalize hv2:Value.slice (some ad) len e.size=z at p4;cases p4<;>grind):p:=h
theorem yJ{p:Prop}(h:p:=by intro bs;induction bs with|nil=>rfl|cons R Rs ih=>rw[vU,wW,ih,wU];show 3+_=_;omega):p:=h
theorem yI{p:Prop}(h:p:=by cases e:M8 fd l q R.i with|er p e=>exact Kp.er _ _ _ _|ok k=>obtain⟨n,hi⟩:=b6V e;exact Kp.step hi rfl rfl rfl rfl):p:=h
theorem yH{p:Prop}(h:p:=by have:=hUc _ hi;omega):p:=h
theorem yG{p:Prop}(h:p:=by have:=hi;grind[a3a,J2]):p:=h
theorem yF{p:Prop}(h:p:=by dsimp only at k;omega):p:=h
theorem yE{p:Prop}(h:p:=by grind[Op.operands]):p:=h
theorem yD{p:Prop}(h:p:=by rw[hh,vX rfl]):p:=h
theorem yC{p:Prop}(h:p:=by simp(disch:=omega)only[hh3,hs2,d9]):p:=h
theorem yB{p:Prop}(h:p:=by simp(disch:=omega)only[hs2,d9]):p:=h
theorem yA{p:Prop}(h:p:=by have:=(hu4 _ ho).1;omega):p:=h
theorem xz{p:Prop}(h:p:=by rw[(hf _).e];exact hk v):p:=h
theorem xy{p:Prop}(h:p:=by rw[H.L,wR]):p:=h
theorem xx{p:Prop}(h:p:=by have:=hl.len.2;omega):p:=h
theorem xw{p:Prop}(h:p:=by show(match x.l with|[]=>_|w::_=>_)=_;rw[hl]):p:=h
theorem xu{p:Prop}(h:p:=by simp only[a0W,a1v,O5,O4,a2p,a0N,O9,a9o]):p:=h
theorem xq{p:Prop}(h:p:=by rw[vV zy];simp):p:=h
theorem xm{p:Prop}(h:p:=by have:=wO List.length hd;grind):p:=h
theorem xh{p:Prop}(h:p:=by induction n<;>first|rfl|grind[a6O]):p:=h
theorem xg{p:Prop}(h:p:=by simp(disch:=omega)only[d9,hh1]):p:=h
theorem xZ{p:Prop}(h:p:=by rcases hq with⟨k,e,rfl,hF⟩|⟨p,e',e,rfl,hF⟩;rw[e];exact⟨rfl,hF⟩;rw[e];exact⟨rfl,hF⟩):p:=h
theorem xY{p:Prop}(h:p:=by rcases H with⟨rfl,rfl⟩|⟨a,rfl,rfl⟩|⟨a,cap,rfl,_,_,h3,_⟩;exact h0;exact h0;exact h3):p:=h
theorem xX{p:Prop}(h:p:=by unfold M8;rw[hi];show bcase (Z0 n.k n.t) (bcase _ _ _) _=_;rw[q1,wy q2];rfl):p:=h
theorem xW{p:Prop}(h:p:=by unfold M8;rw[hi];show bcase (Z0 n.k n.t) (bcase _ _ _) _=_;rw[q1,ww q2];rfl):p:=h
theorem xV{p:Prop}(h:p:=by by_cases hx:b2=b;exact⟨_,by rw[hx];exact hb⟩;rw[hn b2 hx];exact S.dom2 b2 g2 l2 q):p:=h
theorem xU{p:Prop}(h:p:=by have ht:t∉I9 (a0I a) (a0I b):=ht;rw[V7,vN,not_or]at ht;exact ht):p:=h
theorem xS{p:Prop}(h:p:=by rcases sI x.n with h|h;exact h;have:=Nat.mul_pos h e0;simp_all):p:=h
theorem xR{p:Prop}(h:p:=by show k (match Nat.beq i id with|true=>.normal|false=>.exit i) fr=_;rw[h]):p:=h
theorem xQ{p:Prop}(h:p:=by rw[hh,vg hj]):p:=h
theorem xP{p:Prop}(h:p:=by simpa using r2.len):p:=h
theorem xO{p:Prop}(h:p:=by simpa using r2.at_):p:=h
theorem xM{p:Prop}(h:p:=by rw[rP];omega):p:=h
theorem xL{p:Prop}(h:p:=by unfold a0X at h;rw[wh]at h;exact wP h.1):p:=h
theorem xK{p:Prop}(h:p:=by have h9:=H.z2;have h8:=hs.2.1;simp only[wU]at h9;omega):p:=h
theorem xJ{p:Prop}(h:p:=by grind[Instr.findKey,Sem.run_bind,Z7,Result.andThen_ok,Sem.run_pure]):p:=h
theorem xI{p:Prop}(h:p:=by unfold S.I64;rw[wE,wz hlt];rfl):p:=h
theorem xH{p:Prop}(h:p:=by obtain⟨o2,s2,hr,_⟩:=E8 (H9 h4).choose_spec.2;exact(a9Q hr).1):p:=h
theorem xG{p:Prop}(h:p:=by cases x with|ok k=>exact Y4.ok _|er p e=>exact Y4.er (h p e rfl)):p:=h
end Go
namespace Go
theorem xE{p:Prop}(h:p:=by first|assumption|omega):p:=h
end Go
noncomputable section
namespace Go.V
def F9 {α:Type}(l:List α):Nat:=List.rec (motive:=λ_=>Nat) 0 (λ_ _ n=>n+1) l
def a0r {α:Type}(l:List α):Nat->Option α:=List.rec (motive:=λ_=>Nat->Option α) (λ_=>none) (λv _ ih i=>Nat.rec (motive:=λ_=>Option α) (some v) (λi _=>ih i) i) l
def F8 {α:Type}(l:List α):Nat->List α:=List.rec (motive:=λ_=>Nat->List α) (λ_=>[]) (λv l ih i=>Nat.rec (motive:=λ_=>List α) (v::l) (λi _=>ih i) i) l
def a2i {α:Type}(l:List α):Nat->List α:=List.rec (motive:=λ_=>Nat->List α) (λ_=>[]) (λv _ ih i=>Nat.rec (motive:=λ_=>List α) [] (λi _=>v::ih i) i) l
def I9 {α:Type}(l m:List α):List α:=List.rec (motive:=λ_=>List α) m (λv _ ih=>v::ih) l
def J7 {α β:Type}(f:α->β)(l:List α):List β:=List.rec (motive:=λ_=>List β) [] (λv _ ih=>f v::ih) l
def M0 {α:Type}(f:α->Bool)(l:List α):Bool:=List.rec (motive:=λ_=>Bool) true (λv _ ih=>Bool.rec (motive:=λ_=>Bool) false ih (f v)) l
def beqBytes (l:List UInt8):List UInt8->Bool:=List.rec (motive:=λ_=>List UInt8->Bool) (λm=>match m with|[]=>true|_::_=>false) (λv _ ih m=>match m with|[]=>false|w::m=>Bool.rec (motive:=λ_=>Bool) false (ih m) (Nat.beq v.toNat w.toNat)) l
def a7C (l:List UInt8):List UInt8->Bool:=List.rec (motive:=λ_=>List UInt8->Bool) (λm=>match m with|[]=>false|_::_=>true) (λv _ ih m=>match m with|[]=>false|w::m=>match Nat.blt v.toNat w.toNat with|true=>true|false=>match Nat.beq v.toNat w.toNat with|true=>ih m|false=>false) l
inductive Trie (α:Type) where
 | leaf
 | node (v:Option α) (l r:Trie α)
def Trie.get {α:Type}(t:Trie α):Nat->Option α:=Trie.rec (motive:=λ_=>Nat->Option α) (λ_=>none) (λv _ _ gl gr n=>match n with|0=>v|k+1=>match k%2 with|0=>gl (k/2)|_+1=>gr (k/2)) t
def Trie.putK {α β:Type}(o:Option α)(f:Nat):Trie α->Nat->(Trie α->β)->β:=Nat.rec (motive:=λ_=>Trie α->Nat->(Trie α->β)->β) (λt _ q=>q t) (λ_ ih t n q=>match n with
 |0=>match t with|.leaf=>q (.node o .leaf .leaf)|.node _ l r=>q (.node o l r)
 |k+1=>match t with
  |.leaf=>match k%2 with|0=>ih .leaf (k/2) λt=>q (.node none t .leaf)|_+1=>ih .leaf (k/2) λt=>q (.node none .leaf t)
  |.node v l r=>match k%2 with|0=>ih l (k/2) λt=>q (.node v t r)|_+1=>ih r (k/2) λt=>q (.node v l t)) f
def a8t {α:Type}(n:Nat)(k:Nat->α):α:=match n with|0=>k 0|m+1=>k (m+1)
def d3s {α:Type}(n:Int)(k:Int->α):α:=match n with|.ofNat m=>a8t m λm=>k (.ofNat m)|.negSucc m=>a8t m λm=>k (.negSucc m)
def fList {β α:Type}(l:List β):(List β->α)->α:=List.rec (motive:=λ_=>(List β->α)->α) (λk=>k []) (λx _ ih k=>ih λl=>k (x::l)) l
def c7V {α:Type}(g:Option Nat)(k:Option Nat->α):α:=match g with|none=>k none|some g=>a8t g λg=>k (some g)
def c0c {α:Type}(a:Option Addr)(k:Option Addr->α):α:=match a with|none=>k none|some a=>a8t a.block λb=>a8t a.off λoff=>c7V a.spot λg=>k (some ⟨b,off,g⟩)
def a7F {α:Type}(v:Value)(k:Value->α):α:=match v with
 |.int kd n=>d3s n λn=>k (.int kd n)|.bool b=>match b with|true=>k (.bool true)|false=>k (.bool false)
 |.string s=>k (.string s)|.pointer a=>c0c a λa=>k (.pointer a)|.slice a n c=>c0c a λa=>a8t n λn=>a8t c λc=>k (.slice a n c)|.agg cs=>fList cs.toList λl=>k (.agg ⟨l⟩)|.tuple cs=>fList cs.toList λl=>k (.tuple ⟨l⟩)|v=>k v
inductive VObj where
 | cells (cs:List (Value×Nat)) (cur:Nat) (ro:Bool)
 | map (es:List (Value×Value))
 | siter (s:ByteArray) (pos:Nat)
structure S where
 c:Nat
 h:Trie VObj
 r:List Nat
 w:List Nat
def M (α:Type):Type:=S->Option (α×S)
def M.pure {α:Type}(a:α):M α:=λs=>some (a,s)
def M.bind {α β:Type}(m:M α)(f:α->M β):M β:=λs=>match m s with|none=>none|some x=>f x.1 x.2
def M.fail {α:Type}:M α:=λ_=>none
def M.lift {α:Type}(o:Option α):M α:=λs=>match o with|none=>none|some a=>some (a,s)
def M.obind {α β:Type}(o:Option α)(f:α->M β):M β:=match o with|none=>M.fail|some a=>f a
def M.guard {α:Type}(b:Bool)(m:M α):M α:=match b with|true=>m|false=>M.fail
def rd (i:Nat):M VObj:=λs=>match Nat.blt i s.c with
 |true=>match s.h.get i with|some o=>some (o,⟨s.c,s.h,i::s.r,s.w⟩)|none=>none
 |false=>none
def wr (i:Nat)(o:VObj):M Unit:=λs=>match Nat.blt i s.c with
 |true=>match s.h.get i with|some _=>Trie.putK (some o) (i+1) s.h i λh=>some ((),⟨s.c,h,s.r,i::s.w⟩)|none=>none
 |false=>none
def new (o:VObj):M Nat:=λs=>Trie.putK (some o) (s.c+1) s.h s.c λh=>a8t (s.c+1) λc=>some (s.c,⟨c,h,s.r,s.c::s.w⟩)
structure TI where
 und:TypeDesc
 size:Nat
 bytes:Nat
 zero:Value
structure Tab where
 types:Trie TI
 funcs:Trie Func
 ng:Nat
def a0H {α:Type}(p:Program)(s:Sem α):Option α:=Sem.rec (motive:=λ_=>Option α) (λa=>some a) (λ_ _ _ _=>none) (λ_ _ _ _ _=>none) (λ_ _ _=>none) (λ_ _ _=>none) (λ_ _ _ _=>none) (λ_ _ _=>none) (λ_ _ _=>none) (λ_ _ _ _=>none) (λ_ _ _=>none) (λ_ _ _=>none) (λ_ ih=>ih p) (λ_ _ ih=>ih) (λ_=>none) s
def plain:Value->Bool|.bool _=>true|.int ..=>true|.float ..=>true|.complex ..=>true|.string _=>true|.pointer a=>a.isNone|.slice a n c=>a.isNone&&Nat.beq n 0&&Nat.beq c 0|.map r=>r.isNone|.nilFunc=>true|.nilIface=>true|_=>false
def M7 (n:Nat):Value->Bool:=Nat.rec (motive:=λ_=>Value->Bool) (λ_=>false) (λ_ ih v=>match v with|.agg cs=>M0 ih cs.toList|.tuple cs=>M0 ih cs.toList|.iface _ v=>ih v|v=>plain v) n
def C8 (l:List Value):Nat->Value:=List.rec (motive:=λ_=>Nat->Value) (λ_=>undef) (λv _ ih i=>Nat.rec (motive:=λ_=>Value) v (λi _=>ih i) i) l
def a4P (l:List Value):Nat->Value->List Value:=List.rec (motive:=λ_=>Nat->Value->List Value) (λ_ _=>[]) (λv l ih i x=>Nat.rec (motive:=λ_=>List Value) (x::l) (λi _=>v::ih i x) i) l
def Y0 (T:Tab)(fr:List Value):Operand->Option Value
 |.tmp t=>some (C8 fr t)|.const v=>match M7 3 v with|true=>some v|false=>none
 |.global g=>match Nat.blt g T.ng with|true=>some (.pointer (some ⟨g,0,some 0⟩))|false=>none
 |.func f=>some (.func (.func f) #[] #[])
def a0P (T:Tab)(fr:List Value)(os:List Operand):Option (List Value):=List.rec (motive:=λ_=>Option (List Value)) (some []) (λo _ ih=>match Y0 T fr o with|none=>none|some v=>match ih with|none=>none|some vs=>some (v::vs)) os
def ev (T:Tab)(fr:List Value)(x:Operand)(k:Value->M Value):M Value:=M.obind (Y0 T fr x) k
def evs (T:Tab)(fr:List Value)(x:List Operand)(k:List Value->M Value):M Value:=M.obind (a0P T fr x) k
def A7 (g:Nat)(cs:List (Value×Nat)):Nat->Option (List Value):=List.rec (motive:=λ_=>Nat->Option (List Value)) (λn=>match n with|0=>some []|_+1=>none) (λc _ ih n=>match n with
 |0=>some []|n+1=>match Nat.ble c.2 g with
  |true=>match ih n with|some vs=>some (c.1::vs)|none=>none
  |false=>none) cs
def a2S (g:Nat)(vs:List Value):List (Value×Nat)->List (Value×Nat):=List.rec (motive:=λ_=>List (Value×Nat)->List (Value×Nat)) (λcs=>cs) (λv _ ih cs=>match cs with|[]=>(v,g)::ih []|_::cs=>(v,g)::ih cs) vs
def a2c (g:Nat)(vs:List Value)(cs:List (Value×Nat)):Nat->Option (List (Value×Nat)):=List.rec (motive:=λ_=>Nat->Option (List (Value×Nat))) (λn=>match n with|0=>some (a2S g vs [])|_+1=>none) (λc cs ih n=>match n with|0=>some (a2S g vs (c::cs))|n+1=>match ih n with|some cs'=>some (c::cs')|none=>none) cs
def P8:Value->Bool|.agg _=>false|.tuple _=>false|_=>true
def a7t {α:Type}(o:VObj)(k:List (Value×Nat)->Nat->Bool->M α):M α:=match o with|.cells cs cur ro=>k cs cur ro|_=>M.fail
def loadN (a:Addr)(n:Nat):M (List Value):=M.obind a.spot λg=>M.bind (rd a.block) λo=>a7t o λcs _ _=>M.lift (A7 g (F8 cs a.off) n)
def storeN (a:Addr)(vs:List Value):M Unit:=M.obind a.spot λg=>M.bind (rd a.block) λo=>a7t o λcs cur ro=>M.guard (Nat.beq g cur&& !ro&&M0 P8 vs&&Nat.ble (a.off+F9 vs) (F9 cs))<|M.obind (a2c g vs cs a.off) λcs'=>fList cs' λcs'=>wr a.block (.cells cs' cur ro)
def a0b (vs:List Value):M Addr:=M.guard (M0 P8 vs)<|fList (J7 (λv=>(v,0)) vs) λcs=>M.bind (new (.cells cs 0 false)) λb=>M.pure ⟨b,0,some 0⟩
def fwd (a:Addr)(n:Nat):Addr:=⟨a.block,a.off+n,a.spot⟩
def a7O:Value->Option Nat
 |.int _ n=>match n with|.ofNat m=>some m|.negSucc _=>none
 |_=>none
def a2U (d:Nat):Option Value->Option Nat|none=>some d|some v=>a7O v
def a0G {α:Type}(v:Value)(k:Addr->M α):M α:=match v with|.pointer a=>M.obind a k|_=>M.fail
def a9Y:TypeDesc->Bool|.struct _=>true|.array _ _=>true|_=>false
def a3U:IntKind->Nat|.i8=>128|.i16=>32768|.i32=>2147483648|.i64=>9223372036854775808|.u8=>256|.u16=>65536|.u32=>4294967296|.u64=>18446744073709551616
def N8 (k:IntKind)(n:Int):Int:=match n with
 |.ofNat m=>match Nat.blt m (a3U k)with|true=>.ofNat m|false=>k.wrap (.ofNat m)
 |.negSucc m=>match k.signed&&Nat.blt m (a3U k)with|true=>.negSucc m|false=>k.wrap (.negSucc m)
section
variable (p:Program)(T:Tab)
def ti {α:Type}(t:TypeId)(k:TI->M α):M α:=M.obind (T.types.get t) k
def a4E (t:TypeId)(a:Addr):M Value:=ti T t λi=>match a9Y i.und with|true=>M.guard (!(Nat.beq i.size 0))<|M.bind (loadN a i.size) λvs=>M.pure (.agg ⟨vs⟩)|false=>M.bind (loadN a 1) λvs=>M.pure (C8 vs 0)
def b6L (t:TypeId)(a:Addr)(v:Value):M Unit:=ti T t λi=>M.guard (!(Nat.beq i.size 0)&&Nat.beq (F9 v.cells.toList) i.size)<|storeN a v.cells.toList
def a7M:Nat:=4294967296
def elemAt (a:Addr)(i len elem:Nat):M Value:=ti T elem λe=>M.guard (Nat.blt i len&& !(Nat.beq e.size 0))<|M.pure (.pointer (some (fwd a (i*e.size))))
def a9H (t:TypeId)(x ix:Value):M Value:=ti T t λd=>M.obind (a7O ix) λi=>match d.und with
 |.array len elem=>a0G x λa=>elemAt T a i len elem|.slice elem=>match x with|.slice a len es=>M.obind a λa=>ti T elem λe=>M.guard (Nat.beq es e.size)<|elemAt T a i len elem|_=>M.fail
 |_=>M.fail
def b2z (t:TypeId)(x:Value)(f:Nat):M Value:=ti T t λd=>match d.und with|.struct fields=>a0G x λa=>M.obind (a0r fields.toList f) λfd=>ti T fd.type λn=>M.guard (!(Nat.beq n.size 0))<|M.pure (.pointer (some (fwd a fd.offset)))|_=>M.fail
def cut (a:Addr)(len elem:Nat)(lo hi:Option Value):M Value:=ti T elem λe=>M.obind (a2U 0 lo) λl=>M.obind (a2U len hi) λh=>M.guard (Nat.ble l h&&Nat.ble h len&& !(Nat.beq e.size 0))<|M.pure (.slice (some (fwd a (l*e.size))) (h-l) e.size)
def a7K (s:ByteArray)(lo hi:Option Value):M Value:=M.obind (a2U 0 lo) λl=>M.obind (a2U (F9 s.data.toList) hi) λh=>M.guard (Nat.ble l h&&Nat.ble h (F9 s.data.toList))<|fList (a2i (F8 s.data.toList l) (h-l)) λb=>M.pure (.string ⟨⟨b⟩⟩)
def cutNil (lo hi:Option Value):M Value:=M.obind (a2U 0 lo) λl=>M.obind (a2U 0 hi) λh=>M.guard (Nat.beq l 0&&Nat.beq h 0)<|M.pure (.slice none 0 0)
def b3F (t:TypeId)(x:Value)(lo hi mx:Option Value):M Value:=ti T t λd=>M.guard mx.isNone<|match d.und with
 |.string=>match x with|.string s=>a7K s lo hi|_=>M.fail
 |.slice elem=>match x with
  |.slice a len es=>ti T elem λe=>match a with|some a=>M.guard (Nat.beq es e.size)<|cut T a len elem lo hi|none=>M.guard (Nat.beq len 0)<|cutNil lo hi
  |_=>M.fail
 |.array len elem=>a0G x λa=>ti T elem λe=>M.bind (loadN a (len*e.size)) λ_=>cut T a len elem lo hi|_=>M.fail
def a5J (zs:List Value)(n:Nat):List Value:=Nat.rec (motive:=λ_=>List Value) [] (λ_ ih=>I9 zs ih) n
def b2i (t:TypeId)(len cap:Value):M Value:=ti T t λd=>match d.und with|.slice elem=>ti T elem λe=>M.obind (a7O len) λl=>M.obind (a7O cap) λc=>M.guard (Nat.ble l c&&Nat.blt c a7M&&Nat.blt e.bytes 4096&&Nat.beq (F9 e.zero.cells.toList) e.size&& !(Nat.beq e.size 0)&&M7 8 e.zero)<|M.bind (a0b (a5J e.zero.cells.toList l)) λa=>M.pure (.slice (some a) l e.size)|_=>M.fail
def pureV (o:Option Value):M Value:=M.obind o λv=>M.guard (M7 3 v)<|M.pure v
def a7b (b:UInt8):Value:=.int .u8 b.toNat
def b7W:Value->Option UInt8|.int .u8 n=>some (UInt8.ofNat n.toNat)|_=>none
def b3T (vs:List Value):Option (List UInt8):=List.rec (motive:=λ_=>Option (List UInt8)) (some []) (λv _ ih=>match b7W v with|none=>none|some b=>match ih with|some bs=>some (b::bs)|none=>none) vs
def b0p (size:Nat)(x:Value):M (List Value):=match x with
 |.slice a len es=>match a with|none=>M.guard (Nat.beq len 0)<|M.pure []|some a=>match len with|0=>M.pure []|len+1=>M.guard (Nat.beq es size)<|loadN a ((len+1)*size)
 |.string s=>M.guard (Nat.beq size 1)<|M.pure (J7 a7b s.data.toList)|_=>M.fail
def b5h:Value->Bool|.slice ..=>true|_=>false
def b3t:TypeDesc->Bool|.int _=>true|_=>false
def appendAt (e:TI)(a:Addr)(len:Nat)(vs:List Value)(m:Nat):M Value:=M.obind a.spot λg=>M.bind (rd a.block) λo=>a7t o λcs cur ro=>M.guard (!ro)<|M.guard (Nat.ble (a.off+len*e.size) (F9 cs))<|M.obind (A7 g (F8 cs a.off) (len*e.size)) λ_=>fList (I9 (a2i cs (a.off+len*e.size)) (J7 (λv=>(v,cur+1)) vs)) λcs'=>M.bind (wr a.block (.cells cs' (cur+1) ro)) λ_=>M.pure (.slice (some ⟨a.block,a.off,some (cur+1)⟩) (len+m) e.size)
def a7n (e:TI)(s:Value)(vs:List Value):M Value:=match vs with
 |[]=>M.guard (b5h s)<|M.pure s|v::vs=>match s with
  |.slice base len es=>a8t ((F9 vs+1)/e.size) λm=>M.guard (Nat.beq (m*e.size) (F9 vs+1)&&M0 P8 (v::vs)&&Nat.blt ((len+m)*4) a7M&&Nat.blt e.bytes 4096)<|match base with|none=>M.guard (Nat.beq len 0)<|M.bind (a0b (v::vs)) λa=>M.pure (.slice (some a) m e.size)|some a=>M.guard (Nat.beq es e.size)<|appendAt e a len (v::vs) m
  |_=>M.fail
def appendV (argTypes:Array TypeId)(args:List Value):M Value:=M.obind (a0r argTypes.toList 0) λst=>M.obind (a0r argTypes.toList 1) λxt=>ti T st λd=>ti T xt λdx=>match d.und with|.slice elem=>M.obind (a0r args 0) λs=>M.obind (a0r args 1) λx=>ti T elem λe=>M.guard (!b3t dx.und&& !(Nat.beq e.size 0))<|M.bind (b0p e.size x) λvs=>fList vs λvs=>a7n e s vs|_=>M.fail
def a1q:Value->Value->Option Bool
 |.int a x,.int b y=>match decide (a=b)with|true=>some (decide (x=y))|false=>none
 |.string x,.string y=>some (beqBytes x.data.toList y.data.toList)|.bool x,.bool y=>some (x==y)|_,_=>none
def Y9 (k:Value)(es:List (Value×Value)):Option (Option Value):=List.rec (motive:=λ_=>Option (Option Value)) (some none) (λe _ ih=>match a1q k e.1 with|none=>none|some true=>some (some e.2)|some false=>ih) es
def a1G (k v:Value)(es:List (Value×Value)):List (Value×Value):=List.rec (motive:=λ_=>List (Value×Value)) [(k,v)] (λe es ih=>match a1q k e.1 with|some true=>(k,v)::es|_=>e::ih) es
def a8n:TypeDesc->Value->Bool|.int k,.int k' _=>decide (k=k')|.string,.string _=>true|.bool,.bool _=>true|_,_=>false
def c6r {α:Type}(o:VObj)(k:List (Value×Value)->M α):M α:=match o with|.map es=>k es|_=>M.fail
def a6s (r:Nat):M (List (Value×Value)):=M.bind (rd r) λo=>c6r o M.pure
def b4e (x:Value):M (List (Value×Value)):=match x with
 |.map r=>match r with|none=>M.pure []|some r=>a6s r
 |_=>M.fail
def b1m (commaOk:Bool)(v:Value)(b:Bool):Value:=match commaOk with|true=>.tuple #[v,.bool b]|false=>v
def b1d (t:TypeId)(x ix:Value)(commaOk:Bool):M Value:=ti T t λd=>match d.und with
 |.map key elem=>ti T key λkd=>ti T elem λed=>M.guard (a8n kd.und ix)<|M.bind (b4e x) λes=>M.obind (Y9 ix es) λo=>match o with|some v=>M.pure (b1m commaOk v true)|none=>M.guard (M7 8 ed.zero)<|M.pure (b1m commaOk ed.zero false)
 |_=>M.fail
def a6F (t:TypeId)(m k v:Value):M Unit:=ti T t λd=>match d.und with
 |.map key _=>match m with|.map r=>M.obind r λr=>ti T key λkd=>M.guard (a8n kd.und k)<|M.bind (a6s r) λes=>M.obind (Y9 k es) λ_=>fList (a1G k v es) λes'=>wr r (.map es')|_=>M.fail
 |_=>M.fail
def d1r (d:TypeDesc)(x:Value):M Value:=match d with
 |.array n _=>M.pure (goInt n)|.string=>match x with|.string s=>M.pure (goInt (F9 s.data.toList))|_=>M.fail
 |.slice _=>match x with|.slice _ n _=>M.pure (goInt n)|_=>M.fail
 |.map _ _=>M.bind (b4e x) λes=>M.pure (goInt (F9 es))|_=>M.fail
def c4G:TypeDesc->Bool|.int .u8=>true|_=>false
def c5G (e:TypeId)(b:ByteArray):M Value:=ti T e λi=>M.guard (c4G i.und&&Nat.blt (F9 b.data.toList) a7M)<|M.bind (a0b (J7 a7b b.data.toList)) λa=>M.pure (.slice (some a) (F9 b.data.toList) 1)
def convBytes (e:TypeId)(x:Value):M Value:=ti T e λi=>M.guard (c4G i.und)<|M.bind (b0p 1 x) λvs=>M.obind (b3T vs) λbs=>M.pure (.string ⟨⟨bs⟩⟩)
def b1W (src dst:TypeId)(x:Value):M Value:=ti T src λs=>ti T dst λd=>match d.und with
 |.int k=>match x with|.int _ n=>M.pure (.int k (N8 k n))|_=>M.fail
 |.slice e=>match x with|.string b=>c5G T e b|_=>M.fail
 |.string=>match x with|.string b=>M.pure (.string b)|.int _ n=>M.pure (.string (Utf8.encode n))|_=>match s.und with|.slice e=>M.guard (b5h x)<|convBytes T e x|_=>M.fail
 |_=>M.fail
def a9U (fr:List Value)(c a b:Operand):M Value:=ev T fr c λvc=>ev T fr a λva=>ev T fr b λvb=>match vc with
 |.bool t=>match t with|true=>M.pure va|false=>M.pure vb
 |_=>M.fail
def a2A {α:Type}:List α->Bool|[]=>true|_::_=>false
def b4j (t:TypeId):M Value:=ti T t λi=>M.guard (M7 8 i.zero&& !(a2A i.zero.cells.toList))<|M.bind (a0b i.zero.cells.toList) λa=>M.pure (.pointer (some a))
def b2h (fr:List Value)(x:Operand):M Value:=ev T fr x λv=>M.guard (!(a2A v.cells.toList))<|M.bind (a0b v.cells.toList) λa=>M.pure (.pointer (some a))
def a5W (vs:List Value):List Value->List Value:=List.rec (motive:=λ_=>List Value->List Value) (λcs=>cs) (λv _ ih cs=>match cs with|[]=>[]|_::cs=>v::ih cs) vs
def a2O (vs cs:List Value):Nat->List Value:=List.rec (motive:=λ_=>Nat->List Value) (λ_=>[]) (λc cs ih n=>match n with|0=>a5W vs (c::cs)|n+1=>c::ih n) cs
def a7J (place:Nat->Option (Nat×Nat))(qs:List (Nat×Operand)):List Value->List Value->Option (List Value):=List.rec (motive:=λ_=>List Value->List Value->Option (List Value)) (λ_ cs=>some cs) (λq _ ih vs cs=>match vs with|[]=>none|v::vs=>match place q.1 with|none=>none|some os=>match Nat.beq (F9 v.cells.toList) os.2&&Nat.ble (os.1+os.2) (F9 cs)with|true=>ih vs (a2O v.cells.toList cs os.1)|false=>none) qs
def a5C (fields:List Field)(j:Nat):Option (Nat×Nat):=match a0r fields j with|none=>none|some f=>match T.types.get f.type with|none=>none|some i=>some (f.offset,i.size)
def a1W (size j:Nat):Option (Nat×Nat):=some (j*size,size)
def c0y (f:Field):Bool:=(T.types.get f.type).isSome
def a8z (fr:List Value)(t:TypeId)(ps:Array (Nat×Operand)):M Value:=evs T fr (J7 (·.2) ps.toList) λvs=>ti T t λi=>M.guard (M7 8 i.zero)<|match i.und with|.struct fields=>M.guard (M0 (c0y T) fields.toList)<|M.obind (a7J (a5C T fields.toList) ps.toList vs i.zero.cells.toList) λcs=>M.pure (.agg ⟨cs⟩)|.array _ elem=>ti T elem λe=>M.obind (a7J (a1W e.size) ps.toList vs i.zero.cells.toList) λcs=>M.pure (.agg ⟨cs⟩)|_=>M.fail
def a3E (fr:List Value)(t:TypeId)(len:Nat)(ps:Array (Nat×Operand)):M Value:=evs T fr (J7 (·.2) ps.toList) λvs=>ti T t λd=>match d.und with|.slice elem=>ti T elem λe=>M.guard (Nat.beq (F9 e.zero.cells.toList) e.size&& !(Nat.beq e.size 0)&&M7 8 e.zero&&Nat.ble (len*e.size) 16777216)<|M.obind (a7J (a1W e.size) ps.toList vs (a5J e.zero.cells.toList len)) λcs=>M.bind (a0b cs) λa=>M.pure (.slice (some a) len e.size)|_=>M.fail
def a7V (fr:List Value)(t:TypeId)(x:Operand):M Value:=ev T fr x λv=>a0G v λa=>a4E T t a
def a8r (fr:List Value)(t:TypeId)(x y:Operand):M Value:=ev T fr x λva=>ev T fr y λv=>a0G va λa=>M.bind (b6L T t a v) λ_=>M.pure undef
def c2m:Fn->Bool|.func _=>true|_=>false
def a5i (fr:List Value)(x:Operand):M Value:=ev T fr x λv=>match v with|.pointer a=>M.guard a.isSome<|M.pure (.pointer a)|.func fn a b=>M.guard (c2m fn)<|M.pure (.func fn a b)|_=>M.fail
def b3O (op:BinOp)(k:IntKind)(a b:Int):Option Value:=match op with|.add=>some (.int k (N8 k (a+b)))|.sub=>some (.int k (N8 k (a-b)))|.mul=>some (.int k (N8 k (a*b)))|.eql=>some (.bool (decide (a=b)))|.neq=>some (.bool (!(decide (a=b))))|.lss=>some (.bool (decide (a<b)))|.leq=>some (.bool (decide (a<=b)))|.gtr=>some (.bool (decide (b<a)))|.geq=>some (.bool (decide (b<=a)))|_=>none
def a2f:IntKind->IntKind->Bool|.i8,.i8=>true|.i16,.i16=>true|.i32,.i32=>true|.i64,.i64=>true|.u8,.u8=>true|.u16,.u16=>true|.u32,.u32=>true|.u64,.u64=>true|_,_=>false
def b0B (k:IntKind)(m:Nat):Nat:=match Nat.ble m k.bits with|true=>m|false=>k.bits
def c0d (op:BinOp)(k:IntKind)(n m:Nat):Option Value:=match op with
 |.quo=>match m with|0=>none|m+1=>some (.int k (N8 k (.ofNat (Nat.div n (Nat.succ m)))))
 |.rem=>match m with|0=>none|m+1=>some (.int k (.ofNat (Nat.mod n (Nat.succ m))))
 |.and=>some (.int k (N8 k (.ofNat (Nat.land (Nat.mod n (Nat.pow 2 k.bits)) (Nat.mod m (Nat.pow 2 k.bits))))))|.or=>some (.int k (N8 k (.ofNat (Nat.lor (Nat.mod n (Nat.pow 2 k.bits)) (Nat.mod m (Nat.pow 2 k.bits))))))|.xor=>some (.int k (N8 k (.ofNat (Nat.xor (Nat.mod n (Nat.pow 2 k.bits)) (Nat.mod m (Nat.pow 2 k.bits))))))|_=>none
def a4X (op:BinOp)(k:IntKind)(n m:Nat):Option Value:=match op with|.shl=>some (.int k (N8 k (.ofNat (Nat.mul n (Nat.pow 2 (b0B k m))))))|.shr=>some (.int k (.ofNat (Nat.div n (Nat.pow 2 (b0B k m)))))|_=>none
def a6e (f:Nat->Nat->Option Value)(a b:Int):Option Value:=match a with
 |.ofNat n=>match b with|.ofNat m=>f n m|.negSucc _=>none
 |.negSucc _=>none
def a3h (op:BinOp)(k k':IntKind)(a b:Int):Option Value:=match a6e (a4X op k) a b with
 |some v=>some v|none=>match a2f k k' with
  |true=>match b3O op k a b with|some v=>some v|none=>a6e (c0d op k) a b
  |false=>none
def b3R (op:BinOp)(x y:List UInt8):Option Value:=match op with
 |.add=>match Nat.blt (F9 x+F9 y) a7M with|true=>fList (I9 x y) λl=>some (.string ⟨⟨l⟩⟩)|false=>none
 |.eql=>some (.bool (beqBytes x y))|.neq=>some (.bool (!(beqBytes x y)))|.lss=>some (.bool (a7C x y))|.leq=>some (.bool (a7C x y||beqBytes x y))|.gtr=>some (.bool (!(a7C x y||beqBytes x y)))|.geq=>some (.bool (!(a7C x y)))|_=>none
def d1L:BinOp->Bool|.eql=>true|.neq=>true|_=>false
def a4a (d:TypeDesc)(a:Value):Option Bool:=match d with
 |.pointer _=>match a with|.pointer o=>some o.isNone|_=>none
 |.slice _=>match a with|.slice o _ _=>some o.isNone|_=>none
 |.map _ _=>match a with|.map o=>some o.isNone|_=>none
 |.func _ _ _=>match a with|.nilFunc=>some true|.func _ _ _=>some false|_=>none
 |.interface _=>match a with|.nilIface=>some true|.iface _ _=>some false|_=>none
 |_=>none
def isConstO:Operand->Bool|.const _=>true|_=>false
def b1j (T:Tab)(op:BinOp)(t:TypeId)(x y:Operand)(a b:Value):Option Bool:=match d1L op&&(isConstO x||isConstO y)with
 |true=>match T.types.get t with
  |some d=>match a4a d.und a with
   |some p=>match a4a d.und b with
    |some q=>match p||q with|true=>some (p&&q)|false=>none
    |none=>none
   |none=>none
  |none=>none
 |false=>none
def b5q (op:BinOp)(r:Bool):Bool:=match op with|.neq=>!r|_=>r
def a9s (op:BinOp)(t:TypeId)(x y:Operand)(a b:Value):M Value:=match b1j T op t x y a b with|some r=>M.pure (.bool (b5q op r))|none=>M.guard (M7 8 a&&M7 8 b)<|pureV (a0H p (do eqGuard op t x y a b;binOp op t a b))
def b2A (fr:List Value)(op:BinOp)(t:TypeId)(x y:Operand):M Value:=ev T fr x λa=>ev T fr y λb=>match a with
 |.int k n=>match b with
  |.int k' m=>match a3h op k k' n m with|some v=>M.pure v|none=>a9s p T op t x y a b
  |_=>M.fail
 |.string s=>match b with|.string s'=>M.lift (b3R op s.data.toList s'.data.toList)|_=>M.fail
 |_=>a9s p T op t x y a b
def b5p (fr:List Value)(op:UnOp)(x:Operand):M Value:=ev T fr x λa=>M.guard (plain a)<|pureV (a0H p (Op.unary op a))
def a4r (fr:List Value)(s d:TypeId)(x:Operand):M Value:=ev T fr x λa=>b1W T s d a
def c1z:TypeDesc->Bool|.interface _=>true|_=>false
def a8C (fr:List Value)(t:TypeId)(x:Operand):M Value:=ev T fr x λa=>ti T t λi=>M.guard (!(c1z i.und))<|M.pure (.iface t a)
def a9R (fr:List Value)(fn:Fn)(a b:Array Operand):M Value:=evs T fr a.toList λva=>evs T fr b.toList λvb=>M.pure (.func fn ⟨va⟩ ⟨vb⟩)
def c3K:TypeDesc->Bool|.map _ _=>true|_=>false
def b6i:Value->Bool|.int ..=>true|_=>false
def b1L (fr:List Value)(t:TypeId)(r:Option Operand):M Value:=match r with|none=>M.bind (new (.map [])) λb=>M.pure (.map (some b))|some x=>ev T fr x λv=>ti T t λd=>M.guard (c3K d.und&&b6i v)<|M.bind (new (.map [])) λb=>M.pure (.map (some b))
def a9W (fr:List Value)(t:TypeId)(l c:Operand):M Value:=ev T fr l λvl=>ev T fr c λvc=>b2i T t vl vc
def a8s (fr:List Value)(t:TypeId)(x:Operand)(lo hi mx:Option Operand):M Value:=evs T fr lo.toList λvlo=>evs T fr hi.toList λvhi=>evs T fr mx.toList λvmx=>ev T fr x λa=>b3F T t a (a0r vlo 0) (a0r vhi 0) (a0r vmx 0)
def a4t (fr:List Value)(t:TypeId)(x:Operand)(f:Nat):M Value:=ev T fr x λa=>b2z T t a f
def partV (t:TypeId)(cs:List Value)(off:Nat):M Value:=ti T t λi=>match a9Y i.und with|true=>M.pure (.agg ⟨a2i (F8 cs off) i.size⟩)|false=>M.obind (a0r cs off) M.pure
def a6B (fr:List Value)(t:TypeId)(x:Operand)(f:Nat):M Value:=ev T fr x λa=>ti T t λi=>match i.und with
 |.struct fields=>match a with|.agg cs=>M.obind (a0r fields.toList f) λfd=>partV T fd.type cs.toList fd.offset|_=>M.fail
 |_=>M.fail
def a2K (fr:List Value)(t:TypeId)(x i:Operand):M Value:=ev T fr x λa=>ev T fr i λb=>a9H T t a b
def a8w (fr:List Value)(t:TypeId)(x i:Operand):M Value:=ev T fr x λa=>ev T fr i λb=>M.obind (a7O b) λj=>ti T t λd=>match d.und with
 |.string=>match a with|.string s=>M.obind (a0r s.data.toList j) λb=>M.pure (a7b b)|_=>M.fail
 |.array len elem=>match a with|.agg cs=>ti T elem λe=>M.guard (Nat.blt j len)<|partV T elem cs.toList (j*e.size)|_=>M.fail
 |_=>M.fail
def a7f (fr:List Value)(t:TypeId)(x i:Operand)(ok:Bool):M Value:=ev T fr x λa=>ev T fr i λb=>b1d T t a b ok
def a3J (fr:List Value)(t:TypeId)(m k x:Operand):M Value:=ev T fr m λa=>ev T fr k λb=>ev T fr x λv=>M.bind (a6F T t a b v) λ_=>M.pure undef
def a8l (fr:List Value)(t:TypeId)(x:Operand):M Value:=ev T fr x λv=>ti T t λd=>match d.und with
 |.string=>match v with|.string s=>M.bind (new (.siter s 0)) λb=>M.pure (.pointer (some ⟨b,0,some 0⟩))|_=>M.fail
 |_=>M.fail
def b2Z (b:Nat)(s:ByteArray)(pos:Nat):M Value:=match Nat.blt pos (F9 s.data.toList)with|true=>a8t (pos+(Utf8.decode s pos).2) λpos'=>M.bind (wr b (.siter s pos')) λ_=>M.pure (.tuple #[.bool true,goInt pos,.int .i32 (Utf8.decode s pos).1])|false=>M.pure (.tuple #[.bool false])
def d0E:Option Nat->Bool|some g=>Nat.beq g 0|none=>false
def a9V (fr:List Value)(x:Operand)(str:Bool):M Value:=M.guard str<|ev T fr x λv=>a0G v λa=>M.guard (Nat.beq a.off 0&&d0E a.spot)<|M.bind (rd a.block) λo=>match o with|.siter s pos=>b2Z a.block s pos|_=>M.fail
def a6p (fr:List Value)(x:Operand)(i:Nat):M Value:=ev T fr x λa=>match a with|.tuple vs=>M.obind (a0r vs.toList i) M.pure|_=>M.fail
def a0L (fr:List Value)(b:Builtin)(args:Array Operand)(argTypes:Array TypeId):M Value:=evs T fr args.toList λvs=>match b with|.append=>M.guard (Nat.beq (F9 vs) 2)<|appendV T argTypes vs|.len=>M.obind (a0r argTypes.toList 0) λt=>ti T t λd=>M.obind (a0r vs 0) λx=>d1r d.und x|.max=>M.guard (M0 plain vs)<|pureV (a0H p (Builtin.max_ argTypes 0 ⟨vs⟩))|.min=>M.guard (M0 plain vs)<|pureV (a0H p (Builtin.min_ argTypes 0 ⟨vs⟩))|_=>M.fail
def O6 (fr:List Value)(o:Op):M Value:=match o with|.move x=>M.lift (Y0 T fr x)|.assign x=>M.lift (Y0 T fr x)|.pick c a b=>a9U T fr c a b|.alloc t=>b4j T t|.box _ x=>b2h T fr x|.build t ps=>a8z T fr t ps|.buildSlice t len ps=>a3E T fr t len ps|.load t x=>a7V T fr t x|.store t x y=>a8r T fr t x y|.nilCheck x=>a5i T fr x|.binOp op t x y _=>b2A p T fr op t x y|.unOp op _ x=>b5p p T fr op x|.convert s d x=>a4r T fr s d x|.makeInterface t x=>a8C T fr t x|.makeFunc fn a b=>a9R T fr fn a b|.makeMap t r=>b1L T fr t r|.makeSlice t l c=>a9W T fr t l c|.slice t x lo hi mx=>a8s T fr t x lo hi mx|.fieldAddr t x f=>a4t T fr t x f|.field t x f=>a6B T fr t x f|.indexAddr t x i=>a2K T fr t x i|.index t x i=>a8w T fr t x i|.lookup t x i ok=>a7f T fr t x i ok|.mapUpdate t m k x=>a3J T fr t m k x|.insert t m k x=>a3J T fr t m k x|.range t x=>a8l T fr t x|.next x str=>a9V T fr x str|.extract x i=>a6p T fr x i|_=>M.fail
def a5h (fr:List Value)(f:Operand)(args:List Operand)(k:Nat->List Value->M Value):M Value:=ev T fr f λv=>evs T fr args λvs=>match v with
 |.func fn first captured=>match fn with|.func g=>k g (I9 first.toList (I9 vs captured.toList))|_=>M.fail
 |_=>M.fail
def b1c (call:Nat->List Value->M Value)(fr:List Value)(c:Call):M Value:=match c.callee with|.value f=>a5h T fr f c.args.toList call|.builtin b=>a0L p T fr b c.args c.argTypes|_=>M.fail
def b1b:Op->Option Call|.call c=>some c|_=>none
def Z8 (call:Nat->List Value->M Value)(fr:List Value)(o:Op):M Value:=match b1b o with|some c=>b1c p T call fr c|none=>O6 p T fr o
inductive Ex where
 | normal
 | exit (id:Nat)
 | ret
def a1O (b:Bool):Value->Bool|.bool b'=>b'==b|_=>false
def a4k (ops:List Oper)(j:Nat):Option Tmp:=match a0r ops j with|none=>none|some o=>o.dst
def a1T (ops:List Oper)(fr:List Value)(o:Oper):Bool:=match o.guard with|none=>true|some jb=>match a4k ops jb.1 with|some t=>a1O jb.2 (C8 fr t)|none=>false
def Q8 (fr:List Value)(o:Oper)(v:Value):List Value:=match o.dst with|some t=>a4P fr t v|none=>fr
def a3H (fr:List Value)(rs:List ResultVar):M (List Value):=List.rec (motive:=λ_=>M (List Value)) (M.pure []) (λr _ ih=>match r with|.tmp t=>M.bind ih λvs=>M.pure (C8 fr t::vs)|.cell a t=>a0G (C8 fr a) λad=>M.bind (a4E T t ad) λv=>M.bind ih λvs=>M.pure (v::vs)) rs
def a7E:List Value->Value|[]=>.tuple ⟨[]⟩|v::vs=>match vs with|[]=>v|w::ws=>.tuple ⟨v::w::ws⟩
def a6a (call:Nat->List Value->M Value)(ops os:List Oper):List Value->M (List Value):=List.rec (motive:=λ_=>List Value->M (List Value)) M.pure (λo _ ih fr=>match a1T ops fr o with|true=>M.bind (Z8 p T call fr o.op) λv=>a7F v λv=>ih (Q8 fr o v)|false=>ih (Q8 fr o undef)) os
def M.foot {α:Type}(m:M α):M (α×(List Nat×List Nat)):=λs=>match m ⟨s.c,s.h,[],[]⟩with|none=>none|some x=>some ((x.1,(x.2.r,x.2.w)),⟨x.2.c,x.2.h,I9 x.2.r s.r,I9 x.2.w s.w⟩)
def a2t (call:Nat->List Value->M Value)(ops os:List Oper):List Value->M (List Value×List (List Nat×List Nat)):=List.rec (motive:=λ_=>List Value->M (List Value×List (List Nat×List Nat))) (λfr=>M.pure (fr,[])) (λo _ ih fr=>match a1T ops fr o with|true=>M.bind (M.foot (Z8 p T call fr o.op)) λx=>a7F x.1 λv=>M.bind (ih (Q8 fr o v)) λy=>M.pure (y.1,x.2::y.2)|false=>M.bind (ih (Q8 fr o undef)) λy=>M.pure (y.1,([],[])::y.2)) os
def a2D (i:Nat)(l:List Nat):Bool:=List.rec (motive:=λ_=>Bool) false (λx _ ih=>match Nat.beq i x with|true=>true|false=>ih) l
def Y3 (l m:List Nat):Bool:=M0 (λi=>!(a2D i m)) l
def b1n (os:List Operand):List Nat:=List.rec (motive:=λ_=>List Nat) [] (λo _ ih=>match o with|.tmp t=>t::ih|_=>ih) os
def a3m (ops:List Oper)(o:Oper):List Nat:=match o.guard with|none=>b1n o.op.operands.toList|some jb=>match a4k ops jb.1 with|some t=>t::b1n o.op.operands.toList|none=>b1n o.op.operands.toList
def a2B (o:Oper):List Nat:=match o.dst with|some t=>[t]|none=>[]
def free2 (ops:List Oper)(x y:Oper×(List Nat×List Nat)):Bool:=Y3 x.2.2 y.2.1&&Y3 x.2.2 y.2.2&&Y3 y.2.2 x.2.1&&Y3 (a2B x.1) (a3m ops y.1)&&Y3 (a2B x.1) (a2B y.1)&&Y3 (a2B y.1) (a3m ops x.1)
def a5R (ps:List (List Nat))(e:Edge):List Nat:=match Region.binds .any e with
 |true=>match a0r ps e.on with|some l=>e.on::l|none=>[]
 |false=>[]
def a4C (f:Edge->List Nat)(l:List Edge):List Nat:=List.rec (motive:=λ_=>List Nat) [] (λe _ ih=>I9 (f e) ih) l
def a7q (ops:List Oper)(pj:List Nat)(y:Oper×(List Nat×List Nat))(xs:List (Oper×(List Nat×List Nat))):Nat->Bool:=List.rec (motive:=λ_=>Nat->Bool) (λ_=>true) (λx _ ih i=>match a2D i pj||free2 ops x y with|true=>ih (i+1)|false=>false) xs
def a7v (n:Nat)(l:List Edge):Bool:=M0 (λe=>match Region.binds .any e with|true=>Nat.blt e.on n|false=>true) l
def a2P (ops:List Oper)(ys:List (Oper×(List Nat×List Nat))):List (Oper×(List Nat×List Nat))->List (List Nat)->Nat->Bool:=List.rec (motive:=λ_=>List (Oper×(List Nat×List Nat))->List (List Nat)->Nat->Bool) (λ_ _ _=>true) (λy _ ih xs ps n=>match a7v n y.1.after.toList&&a7q ops (a4C (a5R ps) y.1.after.toList) y xs 0 with|true=>ih (I9 xs [y]) (I9 ps [a4C (a5R ps) y.1.after.toList]) (n+1)|false=>false) ys
def a4x {α β:Type}(l:List α):List β->List (α×β):=List.rec (motive:=λ_=>List β->List (α×β)) (λ_=>[]) (λa _ ih m=>match m with|[]=>[]|b::m=>(a,b)::ih m) l
def region (call:Nat->List Value->M Value)(ops:List Oper)(draw:Bool)(fr:List Value):M (Ex×List Value):=match draw with|false=>M.bind (a6a p T call ops ops fr) λfr'=>M.pure (.normal,fr')|true=>M.bind (a2t p T call ops ops fr) λy=>M.guard (a2P ops (a4x ops y.2) [] [] 0)<|M.pure (.normal,y.1)
def c6k (call:Nat->List Value->M Value)(ih:Code->List Value->M (Ex×List Value))(c:Code)(fr:List Value):M (Ex×List Value):=match c with
 |.skip=>M.pure (.normal,fr)|.region _ ops draw=>region p T call ops.toList draw fr|.seq a b=>M.bind (ih a fr) λr=>match r.1 with|.normal=>ih b r.2|.exit id=>M.pure (.exit id,r.2)|.ret=>M.pure (.ret,r.2)
 |.cond x a b=>M.obind (Y0 T fr x) λv=>match v with
  |.bool t=>match t with|true=>ih a fr|false=>ih b fr
  |_=>M.fail
 |.block id b=>M.bind (ih b fr) λr=>match r.1 with
  |.normal=>M.pure (.normal,r.2)|.exit id'=>match Nat.beq id' id with|true=>M.pure (.normal,r.2)|false=>M.pure (.exit id',r.2)
  |.ret=>M.pure (.ret,r.2)
 |.loop b=>fList fr λfr=>M.bind (ih b fr) λr=>match r.1 with|.normal=>ih (.loop b) r.2|.exit id=>M.pure (.exit id,r.2)|.ret=>M.pure (.ret,r.2)
 |.exit id=>M.pure (.exit id,fr)|.ret=>M.pure (.ret,fr)|_=>M.fail
def a6N (call:Nat->List Value->M Value)(n:Nat):Code->List Value->M (Ex×List Value):=Nat.rec (motive:=λ_=>Code->List Value->M (Ex×List Value)) (λ_ _=>M.fail) (λ_ ih=>c6k p T call ih) n
def a0t (n:Nat):List Value:=Nat.rec (motive:=λ_=>List Value) [] (λ_ ih=>undef::ih) n
def d6U:Next->Option Value|.value v=>some v|_=>none
def b7I (f:Nat)(args:List Value):M Value:=M.guard (M0 plain args)<|M.obind (a0H p (callFunc f ⟨args⟩)) λx=>M.obind (d6U x) λv=>M.guard (M7 3 v)<|M.pure v
def b1l (fn:Func)(r:Ex×List Value):M Value:=match r.1 with|.exit _=>M.fail|_=>M.bind (a3H T r.2 fn.results.toList) λvs=>M.pure (a7E vs)
def enter (call:Nat->List Value->M Value)(n:Nat)(fn:Func)(f:Nat)(args:List Value):M Value:=match fn.body with|none=>b7I p f args|some c=>M.bind (a6N p T call n c (I9 args (a0t (fn.ntmps-F9 args)))) λr=>b1l T fn r
def a7c (ext:Nat->Option (List Value->M Value))(n:Nat):Nat->List Value->M Value:=Nat.rec (motive:=λ_=>Nat->List Value->M Value) (λ_ _=>M.fail) (λn ih f args=>match ext f with|some g=>g args|none=>M.obind (T.funcs.get f) λfn=>enter p T ih n fn f args) n
end
end Go.V
end
noncomputable section
namespace Go.V
inductive CR where
 | ret (v:Value)
 | pan (v:Value)
inductive Xc where
 | normal
 | exit (id:Nat)
 | ret
 | pan (v:Value)
abbrev I5:=Nat->List Value->M CR
def bcase {α:Type}(b:Bool)(x y:α):α:=Bool.rec (motive:=λ_=>α) y x b
def a5P {β:Type}(v:Value)(x y:M β):M β:=match v with|.bool b=>bcase b x y|_=>M.fail
def a1w {β:Type}(r:CR)(kn kp:Value->M β):M β:=match r with|.ret v=>kn v|.pan v=>kp v
def X3 {β:Type}(x:Xc)(kn:M β)(ke:Nat->M β)(kr:M β)(kp:Value->M β):M β:=match x with|.normal=>kn|.exit id=>ke id|.ret=>kr|.pan v=>kp v
def Q5 {σ:Type}(body:σ->M (Xc×σ))(n:Nat):σ->M (Xc×σ):=Nat.rec (motive:=λ_=>σ->M (Xc×σ)) (λ_=>M.fail) (λ_ ih x=>M.bind (body x) λr=>X3 r.1 (ih r.2) (λid=>M.pure (.exit id,r.2)) (M.pure (.ret,r.2)) (λv=>M.pure (.pan v,r.2))) n
def c2Y {α:Type}(l:List Value):(List Value->α)->α:=List.rec (motive:=λ_=>(List Value->α)->α) (λk=>k []) (λx _ ih k=>a7F x λx=>ih λl=>k (x::l)) l
def c6R (body:List Value->M (Xc×List Value))(n:Nat):List Value->M (Xc×List Value):=Nat.rec (motive:=λ_=>List Value->M (Xc×List Value)) (λ_=>M.fail) (λ_ ih x=>M.bind (body x) λr=>c2Y r.2 λxs=>X3 r.1 (ih xs) (λid=>M.pure (.exit id,xs)) (M.pure (.ret,xs)) (λv=>M.pure (.pan v,xs))) n
structure Cb where
 bv:∀ β:Type,M Value→(Value→M β)→M β
 bc:∀ β:Type,M CR→(Value→M β)→(Value→M β)→M β
 lp:(List Value→M (Xc×List Value))→Nat→List Value→M (Xc×List Value)
 bj:∀ β:Type,M (Xc×List Value)→(Xc→List Value→M β)→M β
def o9:Cb:=⟨λ_ m k=>M.bind m k,λ_ m kn kp=>M.bind m λr=>a1w r kn kp,Q5,λ_ m k=>M.bind m λr=>k r.1 r.2⟩
def a2y:Cb:=⟨λ_ m k=>M.bind m λv=>a7F v k,λ_ m kn kp=>M.bind m λr=>a1w r (λv=>a7F v kn) kp,c6R,λ_ m k=>M.bind m λr=>c2Y r.2 λxs=>k r.1 xs⟩
def P5 (fr:List Value)(W:List Nat):List Value:=J7 (C8 fr) W
def a5B (vs:List Value)(W:List Nat):Nat->List Value->List Value:=List.rec (motive:=λ_=>Nat->List Value->List Value) (λ_ fr=>fr) (λt _ ih i fr=>ih (Nat.succ i) (a4P fr t (C8 vs i))) W
def M6 (W:List Nat)(vs fr:List Value):List Value:=a5B vs W 0 fr
section
variable (p:Program)(T:Tab)
def c2L:Nat->List Value->M Value:=λ_ _=>M.fail
def a1M (call:I5):Nat->List Value->M Value:=λf vs=>M.bind (call f vs) λr=>a1w r M.pure λ_=>M.fail
def b4B (v:Value)(vs:List Value):Option (Nat×List Value):=match v with
 |.func fn first captured=>match fn with|.func g=>some (g,I9 first.toList (I9 vs captured.toList))|_=>none
 |_=>none
def a4Q (fr:List Value)(f:Operand)(args:List Operand):Option (Nat×List Value):=match Y0 T fr f with
 |some v=>match a0P T fr args with|some vs=>b4B v vs|none=>none
 |none=>none
def a5e:Value->Bool|.iface _ _=>true|_=>false
def a3T (cb:Cb)(call:I5){β:Type}(fr:List Value)(o:Op)(kn kp:Value->M β):M β:=match o with
 |.move x=>M.obind (Y0 T fr x) kn|.assign x=>M.obind (Y0 T fr x) kn|.call c=>match c.callee with|.value f=>M.obind (a4Q T fr f c.args.toList) λga=>cb.bc β (call ga.1 ga.2) kn kp|.builtin b=>cb.bv β (a0L p T fr b c.args c.argTypes) kn|_=>M.fail
 |.panic x=>M.obind (Y0 T fr x) λv=>M.guard (a5e v) (kp v)|o=>cb.bv β (O6 p T fr o) kn
def a0x (cb:Cb)(pn:Bool)(call:I5){β:Type}(os:List Oper):List Value->(Xc->List Value->M β)->M β:=List.rec (motive:=λ_=>List Value->(Xc->List Value->M β)->M β) (λfr k=>k .normal fr) (λo _ ih fr k=>a3T p T cb call fr o.op (λv=>ih (Q8 fr o v) k) (λv=>bcase pn (k (.pan v) fr) M.fail)) os
def a4l:Option (Nat×Bool)->Option (Nat×Bool)->Bool|none,none=>true|some a,some b=>Nat.beq a.1 b.1&&(a.2==b.2)|_,_=>false
def a1U (os:List Oper):List (Option (Nat×Bool)×List Oper):=List.rec (motive:=λ_=>List (Option (Nat×Bool)×List Oper)) [] (λo _ ih=>match ih with|[]=>[(o.guard,[o])]|g::gs=>match a4l o.guard g.1 with|true=>(g.1,o::g.2)::gs|false=>(o.guard,[o])::g::gs) os
def O3 (os:List Oper):List Nat:=List.rec (motive:=λ_=>List Nat) [] (λo _ ih=>match o.dst with|some t=>t::ih|none=>ih) os
def a7Y (cb:Cb)(pn:Bool)(call:I5){β:Type}(ops:List Oper)(gs:List (Option (Nat×Bool)×List Oper)):List Value->(Xc->List Value->M β)->M β:=List.rec (motive:=λ_=>List Value->(Xc->List Value->M β)->M β) (λfr k=>k .normal fr) (λg _ ih fr k=>match g.1 with|none=>a0x p T cb pn call g.2 fr λex fr'=>X3 ex (ih fr' k) (λ_=>M.fail) M.fail λv=>k (.pan v) fr'|some jb=>M.obind (a4k ops jb.1) λt=>M.guard (!(a2D t (O3 g.2)))<|cb.bj β (bcase (a1O jb.2 (C8 fr t)) (a0x p T cb pn call g.2 fr λex fr'=>M.pure (ex,P5 fr' (O3 g.2))) (M.pure (.normal,a0t (F9 (O3 g.2))))) λex vs=>X3 ex (ih (M6 (O3 g.2) vs fr) k) (λ_=>M.fail) M.fail λv=>bcase pn (k (.pan v) (M6 (O3 g.2) vs fr)) M.fail) gs
def b7j (call:I5)(ops:List Oper)(n:Nat)(U:List Nat)(vs:List Value)(W:List Nat):M (Xc×List Value):=M.bind (a2t p T (a1M call) ops ops (M6 U vs (a0t n))) λy=>M.guard (a2P ops (a4x ops y.2) [] [] 0)<|M.pure (.normal,P5 y.1 W)
def a4u (ops os:List Oper):List Nat:=List.rec (motive:=λ_=>List Nat) [] (λo _ ih=>I9 (a3m ops o) ih) os
def c1I (i:Nat)(l:List Nat):List Nat:=match a2D i l with|true=>l|false=>i::l
def a2L (l:List Nat):List Nat:=List.rec (motive:=λ_=>List Nat) [] (λi _ ih=>c1I i ih) l
def b7X (cb:Cb)(pn:Bool)(call:I5){β:Type}(ops:List Oper)(draw:Bool)(fr:List Value)(k:Xc->List Value->M β):M β:=match draw with|false=>a7Y p T cb pn call ops (a1U ops) fr k|true=>cb.bj β (b7j p T call ops (F9 fr) (a2L (a4u ops ops)) (P5 fr (a2L (a4u ops ops))) (O3 ops)) λ_ vs=>k .normal (M6 (O3 ops) vs fr)
def a4V (call:I5)(ops os:List Oper):List Value->M (Xc×List Value):=List.rec (motive:=λ_=>List Value->M (Xc×List Value)) (λfr=>M.pure (.normal,fr)) (λo _ ih fr=>match a1T ops fr o with|true=>a3T p T o9 call fr o.op (λv=>ih (Q8 fr o v)) (λv=>M.pure (.pan v,fr))|false=>ih (Q8 fr o undef)) os
def b4h (call:I5)(ops:List Oper)(draw:Bool)(fr:List Value):M (Xc×List Value):=match draw with|false=>a4V p T call ops ops fr|true=>M.bind (a2t p T (a1M call) ops ops fr) λy=>M.guard (a2P ops (a4x ops y.2) [] [] 0)<|M.pure (.normal,y.1)
def a6m (id:Nat)(x:Xc):Xc:=match x with
 |.exit id'=>match Nat.beq id' id with|true=>.normal|false=>.exit id'
 |x=>x
def a0w (N:Nat)(call:I5):Code->List Value->M (Xc×List Value)|.skip,fr=>M.pure (.normal,fr)|.region _ ops draw,fr=>b4h p T call ops.toList draw fr|.seq a b,fr=>M.bind (a0w N call a fr) λr=>X3 r.1 (a0w N call b r.2) (λid=>M.pure (.exit id,r.2)) (M.pure (.ret,r.2)) (λv=>M.pure (.pan v,r.2))|.cond x a b,fr=>M.obind (Y0 T fr x) λv=>a5P v (a0w N call a fr) (a0w N call b fr)|.block id b,fr=>M.bind (a0w N call b fr) λr=>M.pure (a6m id r.1,r.2)|.loop b,fr=>Q5 (a0w N call b) N fr|.exit id,fr=>M.pure (.exit id,fr)|.ret,fr=>M.pure (.ret,fr)|_,_=>M.fail
inductive Pl where
 | d
 | s (j:Option (List Nat)) (a b:Pl)
 | l (W:List Nat) (a:Pl)
def Pl.a:Pl->Pl|.d=>.d|.s _ a _=>a|.l _ a=>a
def Pl.b:Pl->Pl|.s _ _ b=>b|_=>.d
def Pl.j:Pl->Option (List Nat)|.s j _ _=>j|_=>none
def Pl.w:Pl->List Nat|.l W _=>W|_=>[]
def a0I:Code->List Nat|.region _ ops _=>O3 ops.toList|.seq a b=>I9 (a0I a) (a0I b)|.cond _ a b=>I9 (a0I a) (a0I b)|.block _ b=>a0I b|.loop b=>a0I b|_=>[]
def a9Z (l m:List Nat):Bool:=M0 (λi=>a2D i m) l
def a2u:Code->List Nat|.seq a b=>I9 (a2u a) (a2u b)|.cond _ a b=>I9 (a2u a) (a2u b)|.block _ b=>a2u b|.loop b=>a2u b|.exit id=>[id]|_=>[]
def hasRet:Code->Bool|.seq a b=>hasRet a||hasRet b|.cond _ a b=>hasRet a||hasRet b|.block _ b=>hasRet b|.loop b=>hasRet b|.ret=>true|_=>false
def a4g {β:Type}(E:List Nat)(id:Nat)(k:Xc->M β):M β:=List.rec (motive:=λ_=>M β) M.fail (λe _ ih=>bcase (Nat.beq id e) (k (.exit e)) ih) E
def b4C {β:Type}(pn:Bool)(E:List Nat)(n r:Bool)(ex:Xc)(k:Xc->M β):M β:=X3 ex (bcase n (k .normal) M.fail) (λid=>a4g E id k) (bcase r (k .ret) M.fail) (λv=>bcase pn (k (.pan v)) M.fail)
def O1 (cb:Cb)(pn:Bool)(N:Nat)(call:I5):Code->Pl->(β:Type)->List Value->(Xc->List Value->M β)->M β
 |.skip,_,_,fr,k=>k .normal fr|.region _ ops draw,_,_,fr,k=>b7X p T cb pn call ops.toList draw fr k|.seq a b,pl,β,fr,k=>match pl.j with|none=>O1 cb pn N call a pl.a β fr λex fr'=>X3 ex (O1 cb pn N call b pl.b β fr' k) (λid=>k (.exit id) fr') (k .ret fr') (λv=>k (.pan v) fr')|some W=>M.guard (a9Z (a0I a) W)<|cb.bj β (O1 cb pn N call a pl.a (Xc×List Value) fr λex fr'=>M.pure (ex,P5 fr' W)) λex vs=>b4C pn (a2L (a2u a)) true (hasRet a) ex λx=>X3 x (O1 cb pn N call b pl.b β (M6 W vs fr) k) (λid=>k (.exit id) (M6 W vs fr)) (k .ret (M6 W vs fr)) (λv=>k (.pan v) (M6 W vs fr))
 |.cond x a b,pl,β,fr,k=>M.obind (Y0 T fr x) λv=>a5P v (O1 cb pn N call a pl.a β fr k) (O1 cb pn N call b pl.b β fr k)|.block id b,pl,β,fr,k=>O1 cb pn N call b pl.a β fr λex fr'=>k (a6m id ex) fr'|.loop b,pl,β,fr,k=>M.guard (a9Z (a0I b) pl.w)<|cb.bj β (cb.lp (λxs=>O1 cb pn N call b pl.a (Xc×List Value) (M6 pl.w xs fr) λex fr'=>M.pure (ex,P5 fr' pl.w)) N (P5 fr pl.w)) λex vs=>b4C pn (a2L (a2u b)) false (hasRet b) ex λx=>k x (M6 pl.w vs fr)|.exit id,_,_,fr,k=>k (.exit id) fr|.ret,_,_,fr,k=>k .ret fr|_,_,_,_,_=>M.fail
def a3L (cb:Cb){β:Type}(fr:List Value)(rs:List ResultVar):(List Value->M β)->M β:=List.rec (motive:=λ_=>(List Value->M β)->M β) (λk=>k []) (λr _ ih k=>match r with|.tmp t=>ih λvs=>k (C8 fr t::vs)|.cell a t=>a0G (C8 fr a) λad=>cb.bv β (a4E T t ad) λv=>ih λvs=>k (v::vs)) rs
def c1k (cb:Cb)(fn:Func)(ex:Xc)(fr:List Value):M CR:=X3 ex (a3L T cb fr fn.results.toList λvs=>M.pure (.ret (a7E vs))) (λ_=>M.fail) (a3L T cb fr fn.results.toList λvs=>M.pure (.ret (a7E vs))) λv=>M.pure (.pan v)
def a2z (cb:Cb)(pn:Bool)(N:Nat)(call:I5)(fn:Func)(c:Code)(pl:Pl)(args:List Value):M CR:=O1 p T cb pn N call c pl CR (I9 args (a0t (fn.ntmps-F9 args))) λex fr=>c1k T cb fn ex fr
def a6R (N:Nat)(call:I5)(fn:Func)(f:Nat)(args:List Value):M CR:=match fn.body with|none=>M.bind (b7I p f args) λv=>M.pure (.ret v)|some c=>M.bind (a0w p T N call c (I9 args (a0t (fn.ntmps-F9 args)))) λr=>c1k T o9 fn r.1 r.2
def b6U (ext:Nat->Option (List Value->M Value))(N n:Nat):I5:=Nat.rec (motive:=λ_=>I5) (λ_ _=>M.fail) (λ_ ih f args=>match ext f with|some g=>M.bind (g args) λv=>M.pure (.ret v)|none=>M.obind (T.funcs.get f) λfn=>a6R p T N ih fn f args) n
abbrev a1r:=Trie (I5->List Value->M CR)
def o8 (sh:a1r)(n:Nat):I5:=Nat.rec (motive:=λ_=>I5) (λ_ _=>M.fail) (λ_ ih f args=>M.obind (sh.get f) λg=>g ih args) n
end
end Go.V
end
section
namespace Go.V
theorem J2 {α}(l:List α):F9 l=l.length:=by induction l<;>first|rfl|grind[F9]
theorem a2E {α}(l:List α):∀i,a0r l i=l[i]?:=by induction l with|nil=>intro i;rfl|cons v l ih=>intro i;cases i with|zero=>rfl|succ i=>exact ih i
theorem a0O {α}(l:List α):∀i,F8 l i=l.drop i:=by induction l with|nil=>grind[F8]|cons v l ih=>intro i;cases i with|zero=>rfl|succ i=>exact ih i
theorem a3F {α}(l:List α):∀i,a2i l i=l.take i:=by induction l with|nil=>grind[a2i]|cons v l ih=>intro i;cases i with|zero=>rfl|succ i=>simp_all[a2i]
theorem V7 {α}(l m:List α):I9 l m=l++m:=by induction l<;>first|rfl|grind[I9]
theorem a1z {α β}(f:α->β)(l):J7 f l=l.map f:=by induction l<;>first|rfl|grind[J7]
theorem X7 {α}(f:α->Bool)(v l):M0 f (v::l)=(f v&&M0 f l):=by show Bool.rec (motive:=λ_=>Bool) false (M0 f l) (f v)=_;cases f v<;>rfl
theorem c5r {α}(f:α->Bool)(l):M0 f l=l.all f:=by induction l<;>first|rfl|grind[X7]
theorem R5 {α}(f:α->Bool)(l):M0 f l=true↔∀x∈l,f x=true:=by rw[c5r,sS]
theorem Trie.get_node_zero {α}(v:Option α)(l r):(Trie.node v l r).get 0=v:=rfl
theorem Trie.get_node_succ {α}(v:Option α)(l r k):(Trie.node v l r).get (k+1)=if k%2=0 then l.get (k/2)else r.get (k/2):=by show(match k%2 with|0=>l.get (k/2)|_+1=>r.get (k/2))=_;split<;>rename_i h<;>simp[h]
theorem Trie.get_leaf {α}(n):(Trie.leaf:Trie α).get n=none:=rfl
def Trie.put {α:Type}(o:Option α)(f:Nat)(t:Trie α)(n:Nat):Trie α:=Trie.putK o f t n id
theorem Trie.putK_eq' {α}(o f):∀(β) (t) (n) (q:Trie α->β),Trie.putK o f t n q=q (Trie.put o f t n):=by induction f with|zero=>intro β t n q;rfl|succ f ih=>intro β t n q;cases n with|zero=>cases t<;>rfl|succ k=>have hk:k%2=0\/k%2=1:=zy;cases t with|leaf=>show(match k%2 with|0=>Trie.putK o f .leaf (k/2) λt=>q (.node none t .leaf)|_+1=>Trie.putK o f .leaf (k/2) λt=>q (.node none .leaf t))=q (match k%2 with|0=>Trie.putK o f .leaf (k/2) λt=>id (Trie.node none t .leaf)|_+1=>Trie.putK o f .leaf (k/2) λt=>id (Trie.node none .leaf t));rcases hk with h|h<;>simp only[h]<;>rw[ih,ih]<;>rfl|node v l r=>show(match k%2 with|0=>Trie.putK o f l (k/2) λt=>q (.node v t r)|_+1=>Trie.putK o f r (k/2) λt=>q (.node v l t))=q (match k%2 with|0=>Trie.putK o f l (k/2) λt=>id (Trie.node v t r)|_+1=>Trie.putK o f r (k/2) λt=>id (Trie.node v l t));rcases hk with h|h<;>simp only[h]<;>rw[ih,ih]<;>rfl
theorem Trie.putK_eq {α β}(o f t n)(q:Trie α->β):Trie.putK o f t n q=q (Trie.put o f t n):=Trie.putK_eq' o f β t n q
theorem Trie.get_put {α}(o:Option α):∀(f) (t) (n),n<f->∀m,(Trie.put o f t n).get m=if m=n then o else t.get m:=by
 intro f;induction f with
  |zero=>omega|succ f ih=>
   intro t n h m;cases n with
    |zero=>
     cases t with
      |leaf=>show(Trie.node o .leaf .leaf).get m=_;cases m<;>first|rfl|grind[Trie.get_node_succ,Trie.get_leaf]
      |node v l r=>show(Trie.node o l r).get m=_;cases m<;>first|rfl|grind[Trie.get_node_succ]
    |succ k=>
     have hk:k%2=0\/k%2=1:=zy;have hf:k/2<f:=zy;cases t with
      |leaf=>
       have e:Trie.put o (f+1) (.leaf:Trie α) (k+1)=match k%2 with|0=>Trie.node none (Trie.put o f .leaf (k/2)) .leaf|_+1=>Trie.node none .leaf (Trie.put o f .leaf (k/2)):=by show(match k%2 with|0=>Trie.putK o f .leaf (k/2) λt=>id (Trie.node none t .leaf)|_+1=>Trie.putK o f .leaf (k/2) λt=>id (Trie.node none .leaf t))=_;rcases hk with h|h<;>simp only[h]<;>rw[Trie.putK_eq]<;>rfl
       rw[e];cases m<;>first|rfl|grind[Trie.get_node_zero,Trie.get_leaf,Trie.get_node_succ]
      |node v l r=>
       have e:Trie.put o (f+1) (.node v l r) (k+1)=match k%2 with|0=>Trie.node v (Trie.put o f l (k/2)) r|_+1=>Trie.node v l (Trie.put o f r (k/2)):=by show(match k%2 with|0=>Trie.putK o f l (k/2) λt=>id (Trie.node v t r)|_+1=>Trie.putK o f r (k/2) λt=>id (Trie.node v l t))=_;rcases hk with h|h<;>simp only[h]<;>rw[Trie.putK_eq]<;>rfl
       rw[e];cases m<;>first|rfl|grind[Trie.get_node_zero,Trie.get_node_succ]
theorem a4b {α}(n)(k:Nat->α):a8t n k=k n:=by cases n<;>rfl
theorem d5Z {α}(n)(k:Int->α):d3s n k=k n:=by cases n<;>simp[d3s,a4b]
theorem a0g {β α}(l):∀(k:List β->α),fList l k=k l:=by induction l with|nil=>intro k;rfl|cons x l ih=>intro k;exact ih λl=>k (x::l)
theorem d1W {α}(g)(k:Option Nat->α):c7V g k=k g:=by cases g<;>simp[c7V,a4b]
theorem d2E {α}(a)(k:Option Addr->α):c0c a k=k a:=by cases a<;>simp_all[c0c,a4b,d1W]
theorem a8m {α}(v)(k:Value->α):a7F v k=k v:=by cases v with|bool b=>cases b<;>rfl|_=>simp[a7F,d5Z,a4b,d2E,a0g]
theorem E8 {α β m}{f:α->M β}{s s2 b}(h:M.bind m f s=some (b,s2)):∃a s1,m s=some (a,s1)/\f a s1=some (b,s2):=by unfold M.bind at h;grind
theorem H9 {α β o}{f:α->M β}{s s2 b}(h:M.obind o f s=some (b,s2)):∃a,o=some a/\f a s=some (b,s2):=by cases o with|none=>cases h|some a=>exact⟨a,rfl,h⟩
theorem I4 {α c}{m:M α}{s s2 b}(h:M.guard c m s=some (b,s2)):c=true/\m s=some (b,s2):=by cases c with|false=>cases h|true=>exact⟨rfl,h⟩
theorem a5a {α}{o:Option α}{s s2 b}(h:M.lift o s=some (b,s2)):o=some b/\s2=s:=by cases o with|none=>cases h|some a=>cases h;simp_all
theorem y8 {α}{a b:α}{s s2}(h:M.pure a s=some (b,s2)):b=a/\s2=s:=by cases h;simp_all
theorem a9Q {i o s s2}(h:rd i s=some (o,s2)):i<s.c/\s.h.get i=some o/\s2.c=s.c/\s2.h=s.h:=by unfold rd at h;split at h;rename_i hb;split at h;rename_i o' ho;cases h;simp_all;cases h;cases h
def Fr {α:Type}(m:M α):Prop:=∀s a s',m s=some (a,s')->∃dr dw,s'.r=dr++s.r/\s'.w=dw++s.w/\s.c<=s'.c/\(∀i,i∈dr->i<s'.c)/\(∀i,i∈dw->i<s'.c)/\(∀i,s.c<=i->i<s'.c->i∈dw)/\(∀i,i∉dw->s'.h.get i=s.h.get i)/\∀h2 r2 w2,(∀i,(i∈dr\/i∈dw)->i<s.c->h2.get i=s.h.get i)->∃h2',m ⟨s.c,h2,r2,w2⟩=some (a,⟨s'.c,h2',dr++r2,dw++w2⟩)/\(∀i,i∈dw->h2'.get i=s'.h.get i)/\(∀i,i∉dw->h2'.get i=h2.get i)
theorem Fr.pure {α}(a:α):Fr (M.pure a):=by intro s a' s' h;cases h;exact⟨[],[],rfl,rfl,xD _,zn,zn,λi h1 h2=>zy,λ_ _=>rfl,λh2 r2 w2 _=>⟨h2,rfl,zn,λ_ _=>rfl⟩⟩
theorem Fr.fail {α}:Fr (M.fail:M α):=by intro s a s' h;cases h
theorem Fr.lift {α}(o:Option α):Fr (M.lift o):=by cases o with|none=>exact Fr.fail|some a=>exact Fr.pure a
theorem Fr.obind {α β}(o){f:α->M β}(h:∀a,Fr (f a)):Fr (M.obind o f):=by cases o with|none=>exact Fr.fail|some a=>exact h a
theorem Fr.guard {α}(b){m:M α}(h:Fr m):Fr (M.guard b m):=by cases b with|true=>exact h|false=>exact Fr.fail
theorem Fr.bind {α β m}{f:α->M β}(hm:Fr m)(hf:∀a,Fr (f a)):Fr (M.bind m f):=by
 intro s b s2 h;cases e:m s with
  |none=>grind[M.bind]|some x=>
   obtain⟨a,s1⟩:=x;have h':f a s1=some (b,s2):=by grind[M.bind]
   obtain⟨dr1,dw1,e1,e2,e3,e4,e5,e6,e7,e8⟩:=hm s a s1 e;obtain⟨dr2,dw2,g1,g2,g3,g4,g5,g6,g7,g8⟩:=hf a s1 b s2 h';refine⟨dr2++dr1,dw2++dw1,by rw[g1,e1,vT],by rw[g2,e2,vT],zy,?_,?_,?_,?_,?_⟩;grind;grind;grind;simp_all;intro h2 r2 w2 hag;obtain⟨h2',q1,q2,q3⟩:=e8 h2 r2 w2 (λi hi hc=>hag i (by rcases hi with hi|hi<;>simp[hi]) hc);obtain⟨h3,p1,p2,p3⟩:=g8 h2' (dr1++r2) (dw1++w2) zu;grind[M.bind]
theorem Fr.rd (i:Nat):Fr (rd i):=by intro s a s' h;unfold V.rd at h;split at h;rename_i hb;have hlt:i<s.c:=zm;split at h;rename_i o ho;cases h;refine⟨[i],[],rfl,rfl,xD _,zu,zn,λj h1 h2=>zu,λ_ _=>rfl,?_⟩;intro h2 r2 w2 hag;refine⟨h2,?_,zn,λ_ _=>rfl⟩;have:=hag i zn hlt;grind[V.rd];cases h;cases h
theorem Fr.wr (i:Nat)(o:VObj):Fr (wr i o):=by intro s a s' h;unfold V.wr at h;split at h;rename_i hb;have hlt:i<s.c:=zm;split at h;rename_i o' ho;rw[Trie.putK_eq]at h;cases h;refine⟨[],[i],rfl,rfl,xD _,zn,zu,λj h1 h2=>zu,?_,?_⟩;simp_all[Trie.get_put];intro h2 r2 w2 hag;have h1:=hag i zn hlt;refine⟨Trie.put (some o) (i+1) h2 i,?_,?_,?_⟩;grind[V.wr,Trie.putK_eq];intro j hj;obtain rfl:j=i:=zu;simp_all[Trie.get_put];simp_all[Trie.get_put];cases h;cases h
theorem b2N (o s):new o s=some (s.c,⟨s.c+1,Trie.put (some o) (s.c+1) s.h s.c,s.r,s.c::s.w⟩):=by unfold new;rw[Trie.putK_eq,a4b]
theorem Fr.new (o:VObj):Fr (new o):=by intro s a s' h;rw[b2N]at h;cases h;refine⟨[],[s.c],rfl,rfl,wZ _,zn,zn,?_,?_,?_⟩;grind;simp_all[Trie.get_put];intro h2 r2 w2 _;refine⟨Trie.put (some o) (s.c+1) h2 s.c,b2N _ _,?_,?_⟩;intro j hj;obtain rfl:j=s.c:=zu;simp_all[Trie.get_put];simp_all[Trie.get_put]
end Go.V
end
section
namespace Go.V
section
variable (p:Program)(T:Tab)
theorem Fr.asCells {α:Type}(o:VObj){k:List (Value×Nat)->Nat->Bool->M α}(h:∀a b c,Fr (k a b c)):Fr (a7t o k):=by cases o<;>first|exact h _ _ _|exact Fr.fail
theorem Fr.asMap {α:Type}(o:VObj){k:List (Value×Value)->M α}(h:∀a,Fr (k a)):Fr (c6r o k):=by cases o<;>first|exact h _|exact Fr.fail
theorem Fr.asPtr {α:Type}(v:Value){k:Addr->M α}(h:∀a,Fr (k a)):Fr (a0G v k):=by cases v<;>first|exact Fr.obind _ h|exact Fr.fail
theorem Fr.ti {α:Type}(t:TypeId){k:TI->M α}(h:∀a,Fr (k a)):Fr (ti T t k):=Fr.obind _ h
theorem Fr.ev (fr:List Value)(x:Operand){k:Value->M Value}(h:∀a,Fr (k a)):Fr (ev T fr x k):=Fr.obind _ h
theorem Fr.evs (fr:List Value)(x:List Operand){k:List Value->M Value}(h:∀a,Fr (k a)):Fr (evs T fr x k):=Fr.obind _ h
theorem Fr.fList {β α:Type}(l:List β){k:List β->M α}(h:∀a,Fr (k a)):Fr (fList l k):=by rw[a0g];exact h l
theorem Fr.fNat {α:Type}(l:Nat){k:Nat->M α}(h:∀a,Fr (k a)):Fr (a8t l k):=by rw[a4b];exact h l
theorem Fr.fVal {α:Type}(v:Value){k:Value->M α}(h:∀a,Fr (k a)):Fr (a7F v k):=by rw[a8m];exact h v
theorem Fr.pureV (o:Option Value):Fr (pureV o):=Fr.obind _ λ_=>Fr.guard _ (Fr.pure _)
theorem Fr.loadN (a:Addr)(n:Nat):Fr (loadN a n):=Fr.obind _ λ_=>Fr.bind (Fr.rd _) λ_=>Fr.asCells _ λ_ _ _=>Fr.lift _
theorem Fr.storeN (a:Addr)(vs:List Value):Fr (storeN a vs):=Fr.obind _ λ_=>Fr.bind (Fr.rd _) λ_=>Fr.asCells _ λ_ _ _=>Fr.guard _ (Fr.obind _ λ_=>Fr.fList _ λ_=>Fr.wr _ _)
theorem Fr.newCells (vs:List Value):Fr (a0b vs):=Fr.guard _ (Fr.fList _ λ_=>Fr.bind (Fr.new _) λ_=>Fr.pure _)
theorem Fr.loadV (t:TypeId)(a:Addr):Fr (a4E T t a):=Fr.ti T _ λi=>by grind[Fr.guard,Fr.bind,Fr.loadN,Fr.pure]
theorem Fr.storeV (t:TypeId)(a:Addr)(v:Value):Fr (b6L T t a v):=Fr.ti T _ λ_=>Fr.guard _ (Fr.storeN _ _)
theorem Fr.elemAt (a:Addr)(i len elem:Nat):Fr (elemAt T a i len elem):=Fr.ti T _ λ_=>Fr.guard _ (Fr.pure _)
theorem Fr.indexAddrV (t:TypeId)(x ix:Value):Fr (a9H T t x ix):=Fr.ti T _ λi=>Fr.obind _ λj=>by grind[Fr.asPtr,Fr.elemAt,Fr.obind,Fr.ti,Fr.guard,Fr.fail]
theorem Fr.fieldAddrV (t:TypeId)(x:Value)(f:Nat):Fr (b2z T t x f):=Fr.ti T _ λi=>by grind[Fr.asPtr,Fr.obind,Fr.ti,Fr.guard,Fr.pure,Fr.fail]
theorem Fr.cut (a:Addr)(len elem:Nat)(lo hi:Option Value):Fr (cut T a len elem lo hi):=Fr.ti T _ λ_=>Fr.obind _ λ_=>Fr.obind _ λ_=>Fr.guard _ (Fr.pure _)
theorem Fr.cutStr (s:ByteArray)(lo hi:Option Value):Fr (a7K s lo hi):=Fr.obind _ λ_=>Fr.obind _ λ_=>Fr.guard _ (by rw[a0g];exact Fr.pure _)
theorem Fr.cutNil (lo hi:Option Value):Fr (cutNil lo hi):=Fr.obind _ λ_=>Fr.obind _ λ_=>Fr.guard _ (Fr.pure _)
theorem Fr.sliceV (t:TypeId)(x:Value)(lo hi mx:Option Value):Fr (b3F T t x lo hi mx):=Fr.ti T _ λi=>Fr.guard _ (by split;grind[Fr.cutStr,Fr.fail];grind[Fr.ti,Fr.guard,Fr.cut,Fr.cutNil,Fr.fail];grind[Fr.asPtr,Fr.ti,Fr.bind,Fr.loadN,Fr.cut];exact Fr.fail)
theorem Fr.makeSliceV (t:TypeId)(l c:Value):Fr (b2i T t l c):=Fr.ti T _ λi=>by grind[Fr.ti,Fr.obind,Fr.guard,Fr.bind,Fr.newCells,Fr.pure,Fr.fail]
theorem Fr.source (n:Nat)(x:Value):Fr (b0p n x):=by unfold V.b0p;grind[Fr.guard,Fr.pure,Fr.loadN,Fr.fail]
theorem Fr.appendAt (e:TI)(a:Addr)(len:Nat)(vs:List Value)(m:Nat):Fr (appendAt e a len vs m):=Fr.obind _ λ_=>Fr.bind (Fr.rd _) λ_=>Fr.asCells _ λ_ _ _=>Fr.guard _ (Fr.guard _ (Fr.obind _ λ_=>Fr.fList _ λ_=>Fr.bind (Fr.wr _ _) λ_=>Fr.pure _))
theorem Fr.appendTo (e:TI)(s:Value)(vs:List Value):Fr (a7n e s vs):=by unfold V.a7n;grind[Fr.guard,Fr.pure,Fr.fNat,Fr.bind,Fr.newCells,Fr.appendAt,Fr.fail]
theorem Fr.appendV (ts:Array TypeId)(vs:List Value):Fr (appendV T ts vs):=Fr.obind _ λ_=>Fr.obind _ λ_=>Fr.ti T _ λd=>Fr.ti T _ λ_=>by grind[Fr.obind,Fr.ti,Fr.guard,Fr.bind,Fr.source,Fr.fList,Fr.appendTo,Fr.fail]
theorem Fr.mapAt (r:Nat):Fr (a6s r):=Fr.bind (Fr.rd _) λ_=>Fr.asMap _ λ_=>Fr.pure _
theorem Fr.entries (x:Value):Fr (b4e x):=by unfold V.b4e;grind[Fr.pure,Fr.mapAt,Fr.fail]
theorem Fr.lookupV (t:TypeId)(x ix:Value)(ok:Bool):Fr (b1d T t x ix ok):=Fr.ti T _ λd=>by split;grind[Fr.ti,Fr.guard,Fr.bind,Fr.entries,Fr.obind,Fr.pure];exact Fr.fail
theorem Fr.mapUpdateV (t:TypeId)(m k v:Value):Fr (a6F T t m k v):=Fr.ti T _ λd=>by split;grind[Fr.obind,Fr.ti,Fr.guard,Fr.bind,Fr.mapAt,Fr.fList,Fr.wr,Fr.fail];exact Fr.fail
theorem Fr.lenV (d:TypeDesc)(x:Value):Fr (d1r d x):=by unfold V.d1r;grind[Fr.pure,Fr.fail,Fr.bind,Fr.entries]
theorem Fr.convStr (e:TypeId)(b:ByteArray):Fr (c5G T e b):=Fr.ti T _ λ_=>Fr.guard _ (Fr.bind (Fr.newCells _) λ_=>Fr.pure _)
theorem Fr.convBytes (e:TypeId)(x:Value):Fr (convBytes T e x):=Fr.ti T _ λ_=>Fr.guard _ (Fr.bind (Fr.source _ _) λ_=>Fr.obind _ λ_=>Fr.pure _)
theorem Fr.convertV (s d:TypeId)(x:Value):Fr (b1W T s d x):=Fr.ti T _ λ_=>Fr.ti T _ λ_=>by grind[Fr.pure,Fr.fail,Fr.convStr,Fr.guard,Fr.convBytes]
theorem Fr.partV (t:TypeId)(cs:List Value)(off:Nat):Fr (partV T t cs off):=Fr.ti T _ λ_=>by grind[Fr.pure,Fr.obind]
theorem Fr.binV (op:BinOp)(t:TypeId)(x y:Operand)(a b:Value):Fr (a9s p T op t x y a b):=by grind[V.a9s,Fr.pure,Fr.guard,Fr.pureV]
theorem Fr.nextAt (b:Nat)(s:ByteArray)(pos:Nat):Fr (b2Z b s pos):=by grind[V.b2Z,Fr.fNat,Fr.bind,Fr.wr,Fr.pure]
theorem Fr.opBuiltin (fr:List Value)(b:Builtin)(args:Array Operand)(ts:Array TypeId):Fr (a0L p T fr b args ts):=Fr.evs T _ _ λ_=>by grind[Fr.guard,Fr.appendV,Fr.obind,Fr.ti,Fr.lenV,Fr.pureV,Fr.fail]
theorem Fr.simpleOp (fr:List Value)(o:Op):Fr (O6 p T fr o):=by unfold V.O6;split;exact Fr.lift _;exact Fr.lift _;refine Fr.ev T _ _ λ_=>Fr.ev T _ _ λ_=>Fr.ev T _ _ λ_=>?_;grind[Fr.pure,Fr.fail];exact Fr.ti T _ λ_=>Fr.guard _ (Fr.bind (Fr.newCells _) λ_=>Fr.pure _);exact Fr.ev T _ _ λ_=>Fr.guard _ (Fr.bind (Fr.newCells _) λ_=>Fr.pure _);refine Fr.evs T _ _ λ_=>Fr.ti T _ λ_=>Fr.guard _ ?_;grind[Fr.guard,Fr.obind,Fr.pure,Fr.ti,Fr.fail];refine Fr.evs T _ _ λ_=>Fr.ti T _ λ_=>?_;grind[Fr.ti,Fr.guard,Fr.obind,Fr.bind,Fr.newCells,Fr.pure,Fr.fail];exact Fr.ev T _ _ λ_=>Fr.asPtr _ λ_=>Fr.loadV T _ _;exact Fr.ev T _ _ λ_=>Fr.ev T _ _ λ_=>Fr.asPtr _ λ_=>Fr.bind (Fr.storeV T _ _ _) λ_=>Fr.pure _;refine Fr.ev T _ _ λ_=>?_;grind[Fr.guard,Fr.pure,Fr.fail];refine Fr.ev T _ _ λ_=>Fr.ev T _ _ λ_=>?_;grind[Fr.pure,Fr.binV,Fr.fail,Fr.lift];exact Fr.ev T _ _ λ_=>Fr.guard _ (Fr.pureV _);exact Fr.ev T _ _ λ_=>Fr.convertV T _ _ _;exact Fr.ev T _ _ λ_=>Fr.ti T _ λ_=>Fr.guard _ (Fr.pure _);exact Fr.evs T _ _ λ_=>Fr.evs T _ _ λ_=>Fr.pure _;unfold V.b1L;grind[Fr.bind,Fr.new,Fr.pure,Fr.ev,Fr.ti,Fr.guard];exact Fr.ev T _ _ λ_=>Fr.ev T _ _ λ_=>Fr.makeSliceV T _ _ _;exact Fr.evs T _ _ λ_=>Fr.evs T _ _ λ_=>Fr.evs T _ _ λ_=>Fr.ev T _ _ λ_=>Fr.sliceV T _ _ _ _ _;exact Fr.ev T _ _ λ_=>Fr.fieldAddrV T _ _ _;refine Fr.ev T _ _ λ_=>Fr.ti T _ λ_=>?_;grind[Fr.obind,Fr.partV,Fr.fail];exact Fr.ev T _ _ λ_=>Fr.ev T _ _ λ_=>Fr.indexAddrV T _ _ _;refine Fr.ev T _ _ λ_=>Fr.ev T _ _ λ_=>Fr.obind _ λ_=>Fr.ti T _ λ_=>?_;grind[Fr.obind,Fr.pure,Fr.fail,Fr.ti,Fr.guard,Fr.partV];exact Fr.ev T _ _ λ_=>Fr.ev T _ _ λ_=>Fr.lookupV T _ _ _ _;exact Fr.ev T _ _ λ_=>Fr.ev T _ _ λ_=>Fr.ev T _ _ λ_=>Fr.bind (Fr.mapUpdateV T _ _ _ _) λ_=>Fr.pure _;exact Fr.ev T _ _ λ_=>Fr.ev T _ _ λ_=>Fr.ev T _ _ λ_=>Fr.bind (Fr.mapUpdateV T _ _ _ _) λ_=>Fr.pure _;refine Fr.ev T _ _ λ_=>Fr.ti T _ λ_=>?_;grind[Fr.bind,Fr.new,Fr.pure,Fr.fail];refine Fr.guard _ (Fr.ev T _ _ λ_=>Fr.asPtr _ λ_=>Fr.guard _ (Fr.bind (Fr.rd _) λ_=>?_));grind[Fr.nextAt,Fr.fail];refine Fr.ev T _ _ λ_=>?_;grind[Fr.obind,Fr.pure,Fr.fail];exact Fr.fail
theorem Fr.stepOp {call:Nat->List Value->M Value}(hc:∀f vs,Fr (call f vs))(fr:List Value)(o:Op):Fr (Z8 p T call fr o):=by unfold V.Z8;split;unfold V.b1c;split;refine Fr.ev T _ _ λ_=>Fr.evs T _ _ λ_=>?_;grind[Fr.fail];grind[Fr.opBuiltin];exact Fr.fail;grind[Fr.simpleOp]
theorem Fr.resultsV (fr:List Value)(rs:List ResultVar):Fr (a3H T fr rs):=by induction rs with|nil=>exact Fr.pure _|cons r rs ih=>cases r with|tmp t=>exact Fr.bind ih λ_=>Fr.pure _|cell a t=>exact Fr.asPtr _ λ_=>Fr.bind (Fr.loadV T _ _) λ_=>Fr.bind ih λ_=>Fr.pure _
theorem b0V (call ops o os fr):a6a p T call ops (o::os) fr=if a1T ops fr o then M.bind (Z8 p T call fr o.op) λv=>a6a p T call ops os (Q8 fr o v)else a6a p T call ops os (Q8 fr o undef):=by show(match a1T ops fr o with|true=>M.bind (Z8 p T call fr o.op) λv=>a7F v λv=>a6a p T call ops os (Q8 fr o v)|false=>a6a p T call ops os (Q8 fr o undef))=_;grind[a8m]
theorem Fr.runOps {call:Nat->List Value->M Value}(hc:∀f vs,Fr (call f vs))(ops os:List Oper):∀fr,Fr (a6a p T call ops os fr):=by induction os with|nil=>intro fr;exact Fr.pure _|cons o os ih=>grind[b0V,Fr.bind,Fr.stepOp]
theorem Fr.foot {α}{m:M α}(hm:Fr m):Fr (M.foot m):=by intro s x s' h;unfold M.foot at h;cases e:m ⟨s.c,s.h,[],[]⟩with|none=>rw[e]at h;cases h|some y=>obtain⟨a,s1⟩:=y;rw[e]at h;simp only[V7]at h;cases h;obtain⟨dr,dw,e1,e2,e3,e4,e5,e6,e7,e8⟩:=hm _ _ _ e;simp only[wR]at e1 e2;refine⟨dr,dw,by rw[e1],by rw[e2],e3,e4,e5,e6,e7,λh2 r2 w2 hag=>?_⟩;obtain⟨h2',q1,q2,q3⟩:=e8 h2 [] [] hag;simp_all[M.foot,V7]
theorem a7u (call ops o os fr):a2t p T call ops (o::os) fr=if a1T ops fr o then M.bind (M.foot (Z8 p T call fr o.op)) (λx=>M.bind (a2t p T call ops os (Q8 fr o x.1)) λy=>M.pure (y.1,x.2::y.2))else M.bind (a2t p T call ops os (Q8 fr o undef)) λy=>M.pure (y.1,([],[])::y.2):=by show(match a1T ops fr o with|true=>M.bind (M.foot (Z8 p T call fr o.op)) λx=>a7F x.1 λv=>M.bind (a2t p T call ops os (Q8 fr o v)) λy=>M.pure (y.1,x.2::y.2)|false=>M.bind (a2t p T call ops os (Q8 fr o undef)) λy=>M.pure (y.1,([],[])::y.2))=_;grind[a8m]
theorem Fr.runD {call:Nat->List Value->M Value}(hc:∀f vs,Fr (call f vs))(ops os:List Oper):∀fr,Fr (a2t p T call ops os fr):=by induction os with|nil=>intro fr;exact Fr.pure _|cons o os ih=>grind[a7u,Fr.bind,Fr.foot,Fr.stepOp,Fr.pure]
theorem Fr.region {call:Nat->List Value->M Value}(hc:∀f vs,Fr (call f vs))(ops:List Oper)(draw:Bool)(fr:List Value):Fr (region p T call ops draw fr):=by unfold V.region;grind[Fr.bind,Fr.runOps,Fr.pure,Fr.runD,Fr.guard]
theorem Fr.exec {call:Nat->List Value->M Value}(hc:∀f vs,Fr (call f vs))(n:Nat):∀c fr,Fr (a6N p T call n c fr):=by induction n with|zero=>intro c fr;exact Fr.fail|succ n ih=>intro c fr;show Fr (c6k p T call (V.a6N p T call n) c fr);unfold V.c6k;grind[Fr.pure,Fr.region,Fr.bind,Fr.obind,Fr.fail,Fr.fList]
theorem Fr.externV (f:Nat)(vs:List Value):Fr (b7I p f vs):=Fr.guard _ (Fr.obind _ λ_=>Fr.obind _ λ_=>Fr.guard _ (Fr.pure _))
theorem Fr.callV {ext:Nat->Option (List Value->M Value)}(he:∀f g,ext f=some g->∀vs,Fr (g vs))(n:Nat):∀f vs,Fr (a7c p T ext n f vs):=by induction n with|zero=>intro f vs;exact Fr.fail|succ n ih=>intro f vs;show Fr (match ext f with|some g=>g vs|none=>M.obind (T.funcs.get f) λfn=>enter p T (V.a7c p T ext n) n fn f vs);split;rename_i g hg;exact he f g hg vs;refine Fr.obind _ λfn=>?_;grind[V.enter,Fr.externV,Fr.bind,Fr.exec,V.b1l,Fr.fail,Fr.resultsV,Fr.pure]
end
end Go.V
end
