/- AsmLabels: for every two bytes the law returns true, and both read as before: the row, and its tied card. Conditions: those of the given row alone (the listed package variables hold what the program's text lays). The folder's other texts: an evaluator of the model's code, proved sound; the functions' plain forms; their contracts. Made short by a program (names, blanks). -/
import Derived.Test.YtmomonnlmbljoaaGreatDoorRows
import Derived.ProofKit
import Derived.OpenShut
import Derived.Handed
import Derived.HandedShaped
import Derived.Test.YtmomonnlmbljoaaGreatDoorTie
import Derived.Test.YtmomonnlmbljoaaGreatDoorCards
import Derived.LaidLaws
import Derived.Lay
import Derived.JoinedOf
import Derived.SevenTiedAt
import Derived.Test.YtmomonnlmbljoaaGreatDoorRao
import Derived.Test.YtmomonnlmbljoaaGreatDoorRav
import Derived.Test.YtmomonnlmbljoaaGreatDoorRax
import Derived.Test.YtmomonnlmbljoaaGreatDoorRay
import Derived.Test.YtmomonnlmbljoaaGreatDoorRaz
import Derived.Test.YtmomonnlmbljoaaGreatDoorRba
import Derived.Test.YtmomonnlmbljoaaGreatDoorRbb
import Derived.Test.YtmomonnlmbljoaaGreatDoorRbc
import Derived.Test.YtmomonnlmbljoaaGreatDoorRbd
import Derived.Test.YtmomonnlmbljoaaGreatDoorRbe
import Derived.Test.YtmomonnlmbljoaaGreatDoorRbf
import Derived.Test.YtmomonnlmbljoaaGreatDoorRbg
import Derived.Test.YtmomonnlmbljoaaGreatDoorRbh
import Derived.Test.YtmomonnlmbljoaaGreatDoorRbi
import Derived.Test.YtmomonnlmbljoaaGreatDoorRbj
import Derived.Test.YtmomonnlmbljoaaGreatDoorRbk
import Derived.Test.YtmomonnlmbljoaaGreatDoorRbl
import Derived.Test.YtmomonnlmbljoaaGreatDoorRbm
section
namespace Go.Proofs.YtmomonnlmbljoaaGreatDoor
open Go.V Go.Proofs
set_option maxRecDepth 1000000
theorem d8S (mL:Int) (n k:Nat) (h:k<n) (hn:n≤10):I9 mL n k=true:=by
 match n,h,hn with
 | 1,h,_=>
   match k,h with
   | 0,_=>exact d8x mL
   | k+1,h=>omega
 | 2,h,_=>
   match k,h with
   | 0,_=>exact d7U mL
   | 1,_=>exact d9t mL
   | k+2,h=>omega
 | 3,h,_=>
   match k,h with
   | 0,_=>exact d9s mL
   | 1,_=>exact d8P mL
   | 2,_=>exact d8E mL
   | k+3,h=>omega
 | 4,h,_=>
   match k,h with
   | 0,_=>exact d9n mL
   | 1,_=>exact d8A mL
   | 2,_=>exact d8N mL
   | 3,_=>exact d9k mL
   | k+4,h=>omega
 | 5,h,_=>
   match k,h with
   | 0,_=>exact d7X mL
   | 1,_=>exact d9l mL
   | 2,_=>exact d9u mL
   | 3,_=>exact d9r mL
   | 4,_=>exact d8s mL
   | k+5,h=>omega
 | 6,h,_=>
   match k,h with
   | 0,_=>exact d8C mL
   | 1,_=>exact d8r mL
   | 2,_=>exact d8a mL
   | 3,_=>exact d8F mL
   | 4,_=>exact d7L mL
   | 5,_=>exact d7S mL
   | k+6,h=>omega
 | 7,h,_=>
   match k,h with
   | 0,_=>exact d8Y mL
   | 1,_=>exact d8l mL
   | 2,_=>exact d8h mL
   | 3,_=>exact d8t mL
   | 4,_=>exact d9e mL
   | 5,_=>exact d8H mL
   | 6,_=>exact d8d mL
   | k+7,h=>omega
 | 8,h,_=>
   match k,h with
   | 0,_=>exact d7Y mL
   | 1,_=>exact d8z mL
   | 2,_=>exact d9q mL
   | 3,_=>exact d7W mL
   | 4,_=>exact d9h mL
   | 5,_=>exact d7P mL
   | 6,_=>exact d9f mL
   | 7,_=>exact d8U mL
   | k+8,h=>omega
 | 9,h,_=>
   match k,h with
   | 0,_=>exact d8u mL
   | 1,_=>exact d8R mL
   | 2,_=>exact d8O mL
   | 3,_=>exact d8p mL
   | 4,_=>exact d7O mL
   | 5,_=>exact d8M mL
   | 6,_=>exact d8W mL
   | 7,_=>exact d7H mL
   | 8,_=>exact d7G mL
   | k+9,h=>omega
 | 10,h,_=>
   match k,h with
   | 0,_=>exact d4q mL
   | 1,_=>exact d3a mL
   | 2,_=>exact d5R mL
   | 3,_=>exact d5S mL
   | 4,_=>exact d4L mL
   | 5,_=>exact d4f mL
   | 6,_=>exact d4E mL
   | 7,_=>exact d4y mL
   | 8,_=>exact d4M mL
   | 9,_=>exact d5c mL
   | k+10,h=>omega
 | n+11,_,h=>omega
end Go.Proofs.YtmomonnlmbljoaaGreatDoor
end
section
noncomputable section
namespace Go.V
section
variable (p:Program) (T:Tab)
theorem d5I {op:BinOp} {t:TypeId} {x y:Operand} {k:IntKind} {n m:Nat} {v:Value} (h1:a0C op k n m=none) (h2:a3V op k (.ofNat n) (.ofNat m)=none) (h3:b1b op k n m=some v):P7 p T op t x y (.int k (.ofNat n)) (.int k (.ofNat m))=M.pure v:=by
 have hk:a0Z k k=true:=by cases k <;> rfl
 have:a0l op k k (.ofNat n) (.ofNat m)=some v:=by
  unfold a0l; simp only [a0M,h1,hk,h2,h3]
 unfold P7; simp only [this]
theorem b7a (t:TypeId) (x y:Operand) (k:IntKind) (n m:Nat):P7 p T .rem t x y (.int k (.ofNat n)) (.int k (.ofNat (m+1)))=M.pure (.int k (.ofNat (n % (m+1)))):=d5I p T rfl rfl rfl
end
theorem f0E {sh:R8} {f N:Nat} {q:Cb→Nat→j4→Value→Value→M CR} (h:sh.get f=some (X9 (q C8 N))) (n:Nat) (a b:Value):a0L sh (n+1) f [a,b]=q D8 N (a0L sh n) a b:=by rw [c3g sh n f _ h,a3M]; rfl
end Go.V
end
section
namespace Go.Proofs.YtmomonnlmbljoaaGreatDoor
open Go.V Go.RowKit Go.Proofs
set_option maxRecDepth 1000000
variable {mL:Int}
theorem e1K:a0s Tryz.prog A9 (K4 mL) 11 (fun bs=>M.lift (alL bs)):=b0K fun bs v h=>by
 unfold alL at h
 split at h
 · cases h; exact ⟨rfl,rfl,b5X⟩
 · cases h
theorem LL:Shelf' Tryz.prog A9 (K4 mL) NN (Y6 F8 11 (fun bs=>M.lift (alL bs))) sL:=Shelf'.add ⟨b9U,e8u⟩ e1K
theorem c0L (mL:Int) (d a:Nat) (_:d<256) (ha:a<256):∃ s,a0L sL 401 7 [.int .u8 (.ofNat d),.int .u8 (.ofNat a)] (Go.V.a0v (K4 mL))=some (.ret (.bool true),s):=by
 obtain ⟨s,hs⟩:=d4N (d8S mL (d % 10+1) (a % (d % 10+1)) (Nat.mod_lt _ (by omega)) (by omega))
 rw [a3M, ← b0F] at hs
 refine ⟨s, ?_⟩
 rw [f0E (q:=c5a) (N:=NN) (by kernel_rfl) 400, ← b9Q]
 have e0:∀ x y,bn .rem 5 x y (.int .u8 (.ofNat d)) (.int .u8 (.ofNat 10))=M.pure (.int .u8 (.ofNat (d % 10))):=fun x y=>b7a Tryz.prog A9 5 x y .u8 d 9
 have w1:U6 .i64 (Int.ofNat (d % 10))=Int.ofNat (d % 10):=a5f (a2J (by show d % 10<9223372036854775808; omega))
 have w2:U6 .i64 (Int.ofNat (d % 10)+Int.ofNat 1)=Int.ofNat (d % 10+1):=by
  rw [show Int.ofNat (d % 10)+Int.ofNat 1=Int.ofNat (d % 10+1) by simp]
  exact a5f (a2J (by show d % 10+1<9223372036854775808; omega))
 have w3:U6 .i64 (Int.ofNat a)=Int.ofNat a:=a5f (a2J (by show a<9223372036854775808; omega))
 have e2:∀ x y,bn .add 3 x y (.int .i64 (.ofNat (d % 10))) (.int .i64 (.ofNat 1))=M.pure (.int .i64 (.ofNat (d % 10+1))):=fun x y=>(b6U Tryz.prog A9 3 x y .i64 _ _).trans (by rw [w2])
 have e4:∀ x y,bn .rem 3 x y (.int .i64 (.ofNat a)) (.int .i64 (.ofNat (d % 10+1)))=M.pure (.int .i64 (.ofNat (a % (d % 10+1)))):=fun x y=>b7a Tryz.prog A9 3 x y .i64 a (d % 10)
 simp only [sh7,e8r,e0,V.e7R,b4b,w1,e2,w3,e4]
 exact hs
theorem b0Q (d a:Nat) (hd:d<256) (ha:a<256):a0t Tryz.prog (K4 mL) 7 [.int .u8 (.ofNat d),.int .u8 (.ofNat a)] (.bool true):=by
 obtain ⟨s,h⟩:=c0L mL d a hd ha
 exact b9q b7I a3n a6k a2z (LL (mL:=mL)).e (LL (mL:=mL)).s Tryz.func7 (by kernel_rfl) rfl rfl rfl h
end Go.Proofs.YtmomonnlmbljoaaGreatDoor
end
section
noncomputable section
namespace Go.V
open Go.RowKit (Below)
section
variable {P:Program} {T:Tab} {w:World} {rows:R3}
end
end Go.V
end
section
namespace Go.Proofs.YtmomonnlmbljoaaGreatDoor
open Go.V Go.RowKit
set_option maxRecDepth 100000
theorem d4S {H:Type} {enc:TypeId×Value→H} {P:Program} {w:World} {b:Nat} {sp:Nat→Bool} {held:Bool} {n:Nat} {t e:TypeId} {k:IntKind} {fuel:Nat} {cs:List Value} {zs:List Int} {p:List MemPlace} (ht:P.underlying t=some (.array n e)) (he:P.underlying e=some (.int k)) (hc:P.cellsOf e=1) (hct:P.cellsOf t=n)
 (h:DataW.trod enc P w b sp held fuel t cs=some (.agg (zs.map fun z=>.lit (.int k z)),p)):cs=zs.map fun z=>.int k z:=by
 obtain ⟨xs,m,_,hx,hl,hlen,hf⟩:=DataW.trod_array ht h
 have hx1:zs.map (fun z=>(DataW.lit (.int k z):DataW H))=xs.map (·.1):=by
  have:=congrArg Prod.fst hx
  simpa using this
 have hzs:zs.length=n:=by have:=congrArg List.length hx1; simpa [hlen] using this
 rw [hct] at hl
 refine List.ext_getElem? fun i=>?_
 by_cases hi:i<n
 · have h1:=hf i hi
   rw [hc,Nat.mul_one,List.getElem?_eq_getElem (by omega)] at h1
   obtain ⟨z,e1,e2,_⟩:=DataW.trod_int he h1
   have e3:(xs.map (·.1))[i]?=some (DataW.lit (.int k z)):=by rw [List.getElem?_map,List.getElem?_eq_getElem (by omega),Option.map_some,e2]
   rw [← hx1,List.getElem?_map,List.getElem?_eq_getElem (by omega),Option.map_some] at e3
   have e4:zs[i]=z:=by simpa using e3
   have e5:(cs.drop i)[0]?=some (.int k z):=by
    have:=congrArg (fun l=>l[0]?) e1
    simpa [List.getElem?_take] using this
   rw [List.getElem?_drop,Nat.add_zero] at e5
   rw [e5,List.getElem?_map,List.getElem?_eq_getElem (by omega),e4]
   rfl
 · rw [List.getElem?_eq_none (by omega),List.getElem?_eq_none (by simp; omega)]
end Go.Proofs.YtmomonnlmbljoaaGreatDoor
namespace Go.Proofs.YtmomonnlmbljoaaGreatDoor
open Go.V Go.RowKit
set_option maxRecDepth 100000
theorem a2F {W:World} {name:String} {G:Nat} {T e:TypeId} {n:Nat} {k:IntKind} {zs:List Int} (hG:Tryz.prog.globalNamed name=some G) (hT:(Tryz.prog.globals[G]?).map (·.type)=some T) (ht:Tryz.prog.underlying T=some (.array n e)) (he:Tryz.prog.underlying e=some (.int k)) (hc:Tryz.prog.cellsOf e=1) (hct:Tryz.prog.cellsOf T=n)
 {g:Nat} {t:TypeId} {cs:Array Value} {fuel:Nat} {p:List MemPlace} (h1:Tryz.prog.globalNamed name=some g) (h2:(Tryz.prog.globals[g]?).map (·.type)=some t) (h3:W.var? Tryz.prog name=some cs)
 (h4:DataW.trod (fun _=>()) Tryz.prog W 0 (fun _=>true) false fuel t cs.toList=some (.agg (zs.map fun z=>.lit (.int k z)),p)):∃ ty fz,W.heap[G]?=some (.cells ⟨zs.map fun z=>.int k z⟩ ty fz):=by
 obtain rfl:G=g:=Option.some.inj (hG.symm.trans h1)
 obtain rfl:T=t:=Option.some.inj (hT.symm.trans h2)
 have hcs:=d4S ht he hc hct h4
 have ecs:cs=⟨zs.map fun z=>.int k z⟩:=by obtain ⟨l⟩:=cs; exact congrArg Array.mk hcs
 subst ecs
 unfold World.var? at h3
 rw [hG,Option.bind_some] at h3
 split at h3
 · rename_i cs' ty fz hh
   cases h3
   exact ⟨_,_,hh⟩
 · cases h3
theorem c8m {W:World} (h:laidMet Tryz.prog Rows.asmLinesRow.laid W):(∃ ty fz,W.heap[5]?=some (.cells ⟨a3j⟩ ty fz))∧(∃ ty fz,W.heap[4]?=some (.cells ⟨a3C⟩ ty fz))∧(∃ ty fz,W.heap[2]?=some (.cells ⟨a3O⟩ ty fz))∧∃ ty fz,W.heap[0]?=some (.cells ⟨R9⟩ ty fz):=by
 obtain ⟨ps,hV,_⟩:=h
 obtain ⟨g1,t1,cs1,f1,p1,q1,a1,b1,c1,d1,hV,_⟩:=hV
 obtain ⟨g2,t2,cs2,f2,p2,q2,a2,b2,c2,d2,hV,_⟩:=hV
 obtain ⟨g3,t3,cs3,f3,p3,q3,a3,b3,c3,d3,hV,_⟩:=hV
 obtain ⟨g4,t4,cs4,f4,p4,q4,a4,b4,c4,d4,hV,_⟩:=hV
 obtain ⟨g5,t5,cs5,f5,p5,q5,a5,b5,c5,d5,hV,_⟩:=hV
 have x1:(Rows.laid_math_bits_deBruijn32tab:DataW Unit)=.agg ((a3j.map intOf).map fun z=>.lit (.int .u8 z)):=by kernel_rfl
 have x2:(Rows.laid_math_bits_deBruijn64tab:DataW Unit)=.agg ((a3C.map intOf).map fun z=>.lit (.int .u8 z)):=by kernel_rfl
 have x3:(Rows.laid_internal_strconv_uint64pow10:DataW Unit)=.agg ((a3O.map intOf).map fun z=>.lit (.int .u64 z)):=by kernel_rfl
 have x5:(Rows.laid_strings_asciiSpace:DataW Unit)=.agg ((R9.map intOf).map fun z=>.lit (.int .u8 z)):=by kernel_rfl
 have y1:(a3j.map intOf).map (fun z=>Value.int .u8 z)=a3j:=by kernel_rfl
 have y2:(a3C.map intOf).map (fun z=>Value.int .u8 z)=a3C:=by kernel_rfl
 have y3:(a3O.map intOf).map (fun z=>Value.int .u64 z)=a3O:=by kernel_rfl
 have y5:(R9.map intOf).map (fun z=>Value.int .u8 z)=R9:=by kernel_rfl
 rw [x1] at d1
 rw [x2] at d2
 rw [x3] at d3
 rw [x5] at d5
 have z1:=a2F (G:=5) (T:=271) (by kernel_rfl) (by kernel_rfl) Tryz.underlying271 Tryz.underlying5 (by kernel_rfl) (by kernel_rfl) a1 b1 c1 d1
 have z2:=a2F (G:=4) (T:=253) (by kernel_rfl) (by kernel_rfl) Tryz.underlying253 Tryz.underlying5 (by kernel_rfl) (by kernel_rfl) a2 b2 c2 d2
 have z3:=a2F (G:=2) (T:=250) (by kernel_rfl) (by kernel_rfl) Tryz.underlying250 Tryz.underlying23 (by kernel_rfl) (by kernel_rfl) a3 b3 c3 d3
 have z5:=a2F (G:=0) (T:=219) (by kernel_rfl) (by kernel_rfl) Tryz.underlying219 Tryz.underlying5 (by kernel_rfl) (by kernel_rfl) a5 b5 c5 d5
 rw [y1] at z1
 rw [y2] at z2
 rw [y3] at z3
 rw [y5] at z5
 exact ⟨z1,z2,z3,z5⟩
end Go.Proofs.YtmomonnlmbljoaaGreatDoor
namespace Go.Proofs.YtmomonnlmbljoaaGreatDoor
open Go.V Go.RowKit
set_option maxRecDepth 100000
theorem e2G:((begin Tryz.prog (fun _ _=>0) default).world.heap[3]?).bind Obj.row?=some (#[.int .i64 0], 3):=by kernel_rfl
theorem e6r:(((begin Tryz.prog (fun _ _=>0) default).world.heap[6]?).bind Obj.row?).isSome=true:=by kernel_rfl
theorem d6s {W:World} (h:laidMet Tryz.prog Rows.asmLinesRow.laid W) (hS:W.ShapedOpen Tryz.prog):∃ mL,LaidV (K4 mL) W:=by
 obtain ⟨⟨t5,z5,h5⟩,⟨t4,z4,h4⟩,⟨t2,z2,h2⟩,⟨t0,z0,h0⟩⟩:=c8m h
 have hg:Tryz.prog.globals.size=7:=by kernel_rfl
 obtain ⟨cs,e3,hsz,hrow⟩:=hS.1 3 _ _ (by rw [hg]; decide) e2G
 obtain ⟨⟨zero6,ty6⟩,e6⟩:=Option.isSome_iff_exists.1 e6r
 obtain ⟨cs6,e6',_,_⟩:=hS.1 6 _ _ (by rw [hg]; decide) e6
 obtain ⟨ts,hts,_,hc⟩:=hrow (by kernel_rfl)
 have ets:ts=[3]:=(Option.some.inj ((show Tryz.prog.cellTypes Tryz.prog.depth 3=some [3] by kernel_rfl).symm.trans hts)).symm
 subst ets
 obtain ⟨l⟩:=cs
 have hl:l.length=1:=hsz
 obtain ⟨x,rfl⟩:∃ x,l=[x]:=by
  match l,hl with
  | [x],_=>exact ⟨x,rfl⟩
 obtain ⟨u,hu,hk⟩:=hc 0 x rfl
 cases hu
 unfold Cell.ok at hk
 rw [Tryz.underlying3] at hk
 obtain ⟨m,rfl⟩:∃ m,x=.int .i64 m:=by
  cases x with
  | int k n=>obtain ⟨rfl,_⟩:=hk; exact ⟨n,rfl⟩
  | _=>exact (hk:False).elim
 have hrows:∀ (g:Nat) (l:List Value),(K4 m)[g]?=some l→l≠[]→∃ t fz,W.heap[g]?=some (.cells ⟨l⟩ t fz):=by
  intro g l hl hne
  rcases g with _ | _ | _ | _ | _ | _ | _ | g
  · cases hl; exact ⟨_,_,h0⟩
  · cases hl; exact absurd rfl hne
  · cases hl; exact ⟨_,_,h2⟩
  · cases hl; exact ⟨_,_,e3⟩
  · cases hl; exact ⟨_,_,h4⟩
  · cases hl; exact ⟨_,_,h5⟩
  · cases hl; exact absurd rfl hne
  · cases hl
 refine ⟨m, ?_,fun g l hl off v hv=>?_,hrows⟩
 · rcases Nat.lt_or_ge 6 W.heap.size with q | q
   · exact q
   · rw [Array.getElem?_eq_none q] at e6'; cases e6'
 · obtain ⟨t,fz,hh⟩:=hrows g l hl (fun e=>by rw [e] at hv; cases hv)
   simp only [World.cell?,hh]
   simpa using hv
end Go.Proofs.YtmomonnlmbljoaaGreatDoor
end
section
namespace Go
open Go.ChangeShapes
section
variable {H:Type} {enc:TypeId×Value→H}
theorem a0Q {a:Assume} {C:Checked} {os:Os} {f:FuncId} {fn:Func} {s:ChangeSpec} {conds:List PathCond} {apart fresh handsOn again:Bool} {X:World→Array Value→Prop}
 (hX:∀ (w w':World) (args:Array Value),w.heap=w'.heap→X w args→X w' args)
 (own:ownKnob C.prog.godebug=none) (started:os.Started) (noInit:C.prog.inits.idxOf? f=none) (hfn:C.prog.funcs[f]?=some fn)
 (witness:∃ (w:World) (tape:Tape) (i:Input),w.os=os∧(w.forCall tape i).Shaped C.prog∧i.vars=[]∧Input.okWide C.prog (w.forCall tape i) .any w.heap.size f i ∧
   ((s.pre enc C.prog fn conds apart (w.forCall tape i).memory i.args∧X (w.forCall tape i).memory i.args)∧sizedMet enc C.prog fn (OpenSpec.ofChange s) apart (w.forCall tape i).memory i.args)∧a.holds C.prog (lone (Frame.enter C.prog f i.args .normal) [] (w.forCall tape i)))
 (contract:∀ (W:World) (base:Nat) (args:Array Value) (ds gs:List (DataW H)) (before:List MemPlace),
   (∀ (j:Nat) t v,fn.params[j]?=some t→args[j]?=some v→Value.okWide C.prog W .any base t v) →
   DataW.Whole enc C.prog fn.params.toList s.vars apart W args.toList ds gs before→X W args→W.ShapedOpen C.prog →
   Calls C.prog f args W fun e W'=>∃ v,e=.returned v∧s.post enc C.prog fn apart fresh handsOn again W args v W') :
 ReturnsInHanded a C os f .any (fun w args=>(s.pre enc C.prog fn conds apart w args∧X w args)∧sizedMet enc C.prog fn (OpenSpec.ofChange s) apart w args) (s.post enc C.prog fn apart fresh handsOn again):=by
 refine returnsInHanded_of_calls own started noInit witness ?_
 intro w tape i _ hsh _ hok hpre hholds
 obtain ⟨_,_,_,fn',hfn',_,_,_,_,hval⟩:=hok
 have e:fn'=fn:=Option.some.inj (hfn'.symm.trans hfn)
 subst e
 obtain ⟨⟨⟨ds,gs,before,hw,hc⟩,hx⟩,hz⟩:=hpre
 have hw':=DataW.Whole.of_heap (w':=w.forCall tape i) (by rfl) hw
 refine (contract (w.forCall tape i) w.heap.size i.args ds gs before hval hw' (hX _ _ _ (by rfl) hx) hsh).mono fun e W' ⟨v,he,hp⟩=>?_
 subst he
 exact ChangeSpec.post_blind hp
end
end Go
end
section
namespace Go.Proofs.YtmomonnlmbljoaaGreatDoor
open Go.V Go.RowKit Go.ChangeShapes Go.WideShapes Go.ChangeAt
set_option maxRecDepth 100000
theorem Tryz.ownL:ownKnob Tryz.prog.godebug=none:=by kernel_rfl
noncomputable def d7N:Array Value:=#[.int .u8 0,.int .u8 0]
theorem b6v (os:Os) (args:Array Value):laidMet Tryz.prog Rows.asmLabelsRow.laid ((World.laidAll Tryz.prog os Rows.asmLabelsRow.laid).forCall (fun _ _=>0) ⟨#[],args, []⟩).memory:=
 laidMet_laidAll args (by kernel_rfl) (by kernel_rfl)
theorem a5j (os:Os) (args:Array Value):((World.laidAll Tryz.prog os Rows.asmLabelsRow.laid).forCall (fun _ _=>0) ⟨#[],args, []⟩).Shaped Tryz.prog:=
 World.shaped_of_ZipB (by kernel_rfl) (by kernel_rfl)
theorem d7D {N:Int} (h:(Lit.int .u8 N).wf=true):∃ n:Nat,N=.ofNat n∧n<256:=by
 have h':(0:Int)≤N∧N≤255:=by
  simp [Lit.wf,IntKind.min,IntKind.max,IntKind.signed,IntKind.bits] at h
  omega
 exact ⟨N.toNat,by simp; omega,by omega⟩
theorem b9J {H:Type} {enc:TypeId×Value→H} {W:World} {base:Nat} {args:Array Value} {ds gs:List (DataW H)} {before:List MemPlace}
 (hval0:∀ (j:Nat) t v,Tryz.f7.params[j]?=some t→args[j]?=some v→Value.okWide Tryz.prog W .any base t v)
 (hW:DataW.Whole enc Tryz.prog Tryz.f7.params.toList Rows.asmLabelsSpec.vars false W args.toList ds gs before) (hX:laidMet Tryz.prog Rows.asmLabelsRow.laid W) (hS:W.ShapedOpen Tryz.prog) :
 Calls Tryz.prog 7 args W fun e W'=>∃ v,e=.returned v∧Rows.asmLabelsSpec.post enc Tryz.prog Tryz.f7 false true false false W args v W':=by
 have hval:=hval0
 have hW':=hW
 obtain ⟨p,q,hA0,hV,rfl,hfz,hnd⟩:=hW
 have hA:DataW.TrodAll enc Tryz.prog W 0 (fun _=>true) true Tryz.f7.params.toList args.toList ds p:=hA0
 rw [Tryz.params7] at hA hval
 obtain ⟨v0,v1,d0,d1,p0,p1,rfl,rfl,rfl,h0,h1⟩:=trodAll_two hA
 obtain ⟨rfl,rfl⟩:=trodVars_none hV
 obtain ⟨mL,hL⟩:=d6s hX hS
 obtain ⟨z0,rfl,rfl,rfl,hw0⟩:=open_int Tryz.underlying5 (hval 0 5 v0 rfl rfl) h0
 obtain ⟨z1,rfl,rfl,rfl,hw1⟩:=open_int Tryz.underlying5 (hval 1 5 v1 rfl rfl) h1
 obtain ⟨d,rfl,hd⟩:=d7D hw0
 obtain ⟨a,rfl,ha⟩:=d7D hw1
 refine ((b0Q (mL:=mL) d a hd ha W hL).2).mono fun e W' ⟨he,hb⟩=>?_
 subst he
 refine ⟨_,rfl,_,_,_, [], [], [],hW', ?_, ?_, ?_,hb.frame _,fun h=>by cases h⟩
 · exact trodAll_mk1 (shut_bool Tryz.underlying4 true)
 · exact trodAll_mk2 (shut_int Tryz.underlying5 hw0) (shut_int Tryz.underlying5 hw1)
 · rfl
theorem b0R (os:Os) (started:os.Started) (H:Type) (enc:TypeId×Value→H) :
 ReturnsInHanded {} Tryz.checked os 7 .any (fun w args=>(Rows.asmLabelsSpec.pre enc Tryz.prog Tryz.f7 [] false w args∧laidMet Tryz.prog Rows.asmLabelsRow.laid w)∧sizedMet enc Tryz.prog Tryz.f7 (OpenSpec.ofChange Rows.asmLabelsSpec) false w args)
  (Rows.asmLabelsSpec.post enc Tryz.prog Tryz.f7 false true false false):=by
 refine a0Q (C:=Tryz.checked) (X:=fun w _=>laidMet Tryz.prog Rows.asmLabelsRow.laid w) (fun _ _ _ hh h=>h.of_heap hh) Tryz.ownL started (by kernel_rfl) Tryz.func7
  (ChangeSpec.witness_shaped (enc:=enc) (C:=Tryz.checked) (os:=os) (X:=fun w _=>laidMet Tryz.prog Rows.asmLabelsRow.laid w) false (World.laidAll Tryz.prog os Rows.asmLabelsRow.laid) d7N 8 (World.laidAll_os _ _ _) (a5j os _) (by kernel_rfl) (by kernel_rfl) (by kernel_rfl) (b6v os _)) ?_
 intro W base args ds gs before hval hW hX hS
 exact b9J hval hW hX hS
theorem b9M:Rows.AsmLabelsSaid:=
 OpenClaim.holds_of_wide 7 Tryz.f7 rfl rfl rfl rfl rfl rfl rfl ⟨rfl,rfl,rfl,rfl,rfl⟩ rfl rfl rfl rfl rfl (by kernel_rfl) Tryz.func7 (by kernel_rfl)
  (of_decide_eq_true (by kernel_rfl)) (by unfold Func.isWrapper; rw [if_neg (of_decide_eq_false (by kernel_rfl))]; exact ⟨rfl,rfl⟩)
  (fun os started H enc _=>b0R os started H enc)
theorem asmLabels_holds:Rows.AsmLabelsCardSaid:=
 Claim7.holds_tied_plain_at .later [] [.data,.data,.data,.listed,.data] true (true, "43c62acaed52c2d1c7c766b14af42ec8a2d4ae97c4011508ed185cefeb6592bb") false
  b9M (fun _ h=>by cases h) (by kernel_rfl) (fun _ h=>by cases h) asmLabels_row_tie rfl ⟨rfl,rfl⟩ (by kernel_rfl) rfl
  (fun f fn hf hfn=>by
    obtain rfl:f=7:=Option.some.inj ((show Tryz.prog.funcNamed Rows.asmLabelsRow.func=some 7 by kernel_rfl).symm.trans hf) |>.symm
    obtain rfl:fn=Tryz.f7:=(Option.some.inj (Tryz.func7.symm.trans hfn)).symm
    exact ⟨by kernel_rfl,fun j t ht=>by
     rw [Tryz.params7] at ht
     have h3:t=5:=by
      rcases j with _ | _ | j
      · simpa using ht.symm
      · simpa using ht.symm
      · simp at ht
     subst h3
     exact (show Tryz.prog.wantsStandIn 5=false by kernel_rfl)⟩)
  (by kernel_rfl)
end Go.Proofs.YtmomonnlmbljoaaGreatDoor
end
