import Derived.Test.YtmomonnlmbljoaaGreatDoorPad
section
namespace Go.V
open Go.RowKit (Below)
section
variable {P:Program} {T:Tab} {B0:Nat} {w0:Base} {w:World} {K:KM} {s s':S} {a:Act} {fr:List Value} {v:Value}
theorem c0N {x:Operand} (h:M.lift (a2o T fr x) s=some (v,s')) (S:Sim B0 w0 K s.h w) (hf:VRL K a.tmps.toList fr) (hg:GK T K) :
 a0x P B0 w0 K s' (pure (Next.value (a.eval x))) w v:=by
 obtain ⟨h1,rfl⟩:=a6a h
 exact ⟨_,w,K,rfl,Step.same S rfl,Or.inl ⟨_,rfl,a0k hf hg h1⟩⟩
theorem c9u {c x y:Operand} (h:b1H T fr c x y s=some (v,s')) (S:Sim B0 w0 K s.h w) (hf:VRL K a.tmps.toList fr) (hg:GK T K) :
 a0x P B0 w0 K s' (do pure (Next.value (if ← asBool (a.eval c) then a.eval x else a.eval y))) w v:=by
 obtain ⟨vc,e1,q0h⟩:=a2r h
 obtain ⟨va,e2,q1h⟩:=a2r q0h
 obtain ⟨vb,e3,q2h⟩:=a2r q1h
 have r1:=a0k hf hg e1
 have r2:=a0k hf hg e2
 have r3:=a0k hf hg e3
 cases vc with
 | bool t=>
   have:=r1.eq_of_plain rfl
   rw [this]
   cases t with
   | true=>
     obtain ⟨rfl,rfl⟩:=J8 q2h
     exact ⟨_,w,K,rfl,Step.same S rfl,Or.inl ⟨_,rfl,r2⟩⟩
   | false=>
     obtain ⟨rfl,rfl⟩:=J8 q2h
     exact ⟨_,w,K,rfl,Step.same S rfl,Or.inl ⟨_,rfl,r3⟩⟩
 | _=>exact absurd q2h (by intro q; cases q)
theorem c8i (hT:TabOk P T) {t:TypeId} {x:Operand} (h:b1P T fr t x s=some (v,s')) (S:Sim B0 w0 K s.h w) (hf:VRL K a.tmps.toList fr) (hg:GK T K) :
 a0x P B0 w0 K s' (do pure (Next.value (← Instr.loadAt t (a.eval x)))) w v:=by
 obtain ⟨vx,e1,q3h⟩:=a2r h
 obtain ⟨ad,rfl,q4h⟩:=a6N q3h
 obtain ⟨ad',e2,r⟩:=a8w (a0k hf hg e1)
 obtain ⟨u',r1,r2,r3,r4⟩:=b5a hT q4h S r
 refine a0x.quiet S r3 ?_ r2
 rw [e2]
 simp [Instr.loadAt,Instr.sureAddr,r1]
theorem c5B (hT:TabOk P T) {t:TypeId} {x y:Operand} (h:b0s T fr t x y s=some (v,s')) (S:Sim B0 w0 K s.h w) (hf:VRL K a.tmps.toList fr) (hg:GK T K) :
 a0x P B0 w0 K s' (do Instr.storeAt t (a.eval x) (a.eval y); pure Next.skip) w v:=by
 obtain ⟨vx,e1,q5h⟩:=a2r h
 obtain ⟨vy,e2,q6h⟩:=a2r q5h
 obtain ⟨ad,rfl,q7h⟩:=a6N q6h
 obtain ⟨un,s1,h1,h2⟩:=O7 q7h
 obtain ⟨rfl,rfl⟩:=J8 h2
 obtain ⟨ad',e3,r⟩:=a8w (a0k hf hg e1)
 obtain ⟨w',r1,r2,r3⟩:=c2v hT h1 S r (a0k hf hg e2)
 refine ⟨.skip,w',K, ?_,⟨KM.le_refl K,fun _ _ _=>rfl,r2⟩,Or.inr ⟨rfl,rfl⟩⟩
 rw [e3]
 simp [Instr.storeAt,Instr.sureAddr,r1]
theorem a8Z {vs vs':List Value} {ad:Addr} (h:a1U vs s=some (ad,s')) (S:Sim B0 w0 K s.h w) (F:a2C K s s') (hv:VRL K vs' vs) (t:TypeId) :
 ∃ K',Step B0 w0 K s' (w.alloc (.cells vs'.toArray t)) K'∧K' s.c 0=some ⟨w.heap.size, 0, 0,vs'.length,true⟩∧ad=⟨s.c, 0,some 0⟩:=by
 have:=a6A (w':=w.alloc (.cells vs'.toArray t)) (arr:=vs'.toArray) (e:=t) (fz:=(0, 0)) (rest:=[]) h S F hv (Grew.alloc _ _) (by show (w.heap.push _)[w.heap.size]?=_; simp) (by simp) (fun o _=>by simp)
 simpa using this
theorem c5D (hT:TabOk P T) {t:TypeId} (h:c0R T t s=some (v,s')) (S:Sim B0 w0 K s.h w) (F:a2C K s s') :
 a0x P B0 w0 K s' (do pure (Next.value (← Instr.alloc t true (.tuple #[])))) w v:=by
 obtain ⟨i,hi,q8h⟩:=a1H h
 obtain ⟨hgd,q9h⟩:=U1 q8h
 obtain ⟨ad,s1,h1,h2⟩:=O7 q9h
 obtain ⟨rfl,rfl⟩:=J8 h2
 simp only [Bool.and_eq_true] at hgd
 have hz:VR K i.zero i.zero:=a2O _ _ hgd.1
 obtain ⟨K',r1,r2,rfl⟩:=a8Z h1 S F hz.cells t
 refine a0x.step (v':=.pointer (some ⟨w.heap.size, 0,none⟩)) (w':=w.alloc (.cells i.zero.cells t)) ?_ r1 ?_
 · simp [Instr.alloc,a9d hT hi,newVar,newRow]
 · exact VR.ptr (off:=0) r2 (Nat.zero_le _)
theorem d1H {t:TypeId} {x:Operand} (h:b4l T fr x s=some (v,s')) (S:Sim B0 w0 K s.h w) (F:a2C K s s') (hf:VRL K a.tmps.toList fr) (hg:GK T K) :
 a0x P B0 w0 K s' (do pure (Next.value (← Instr.box t (a.eval x)))) w v:=by
 obtain ⟨vx,e1,q10h⟩:=a2r h
 obtain ⟨hgd,q11h⟩:=U1 q10h
 obtain ⟨ad,s1,h1,h2⟩:=O7 q11h
 obtain ⟨rfl,rfl⟩:=J8 h2
 obtain ⟨K',r1,r2,rfl⟩:=a8Z h1 S F (a0k hf hg e1).cells t
 refine a0x.step (v':=.pointer (some ⟨w.heap.size, 0,none⟩)) (w':=w.alloc (.cells (a.eval x).cells t)) ?_ r1 ?_
 · simp [Instr.box,newVar,newRow]
 · exact VR.ptr (off:=0) r2 (Nat.zero_le _)
theorem b8h (hT:TabOk P T) {t:TypeId} {x:Operand} {f:Nat} (h:a7d T fr t x f s=some (v,s')) (S:Sim B0 w0 K s.h w) (hf:VRL K a.tmps.toList fr) (hg:GK T K) :
 a0x P B0 w0 K s' (do pure (Next.value (← Instr.fieldAt t (a.eval x) f))) w v:=by
 obtain ⟨vx,e1,q12h⟩:=a2r h
 obtain ⟨d,hd,q13h⟩:=a1H q12h
 generalize hu:d.und=u at q13h
 cases u with
 | struct fields=>
   obtain ⟨ad,rfl,q14h⟩:=a6N q13h
   obtain ⟨fd,e2,q15h⟩:=U2 q14h
   obtain ⟨n,hn,q16h⟩:=a1H q15h
   obtain ⟨hgd,q17h⟩:=U1 q16h
   obtain ⟨rfl,rfl⟩:=J8 q17h
   obtain ⟨ad',e3,r⟩:=a8w (a0k hf hg e1)
   rw [a4v] at e2
   have e2':fields[f]?=some fd:=by simpa using e2
   have hn0:¬ n.size=0:=b3F hgd
   refine a0x.quiet S rfl ?_ (r.fwd fd.offset)
   rw [e3]
   simp [Instr.fieldAt,a2f hT hd,hu,e2',Instr.sureAddr,fieldPlace,a2P hT hn,hn0]
 | _=>exact absurd q13h (by intro q; cases q)
theorem a5s {x':Value} {o:Option Addr} {len es:Nat} (r:VR K x' (.slice o len es)) :
 (∃ ad ad' cap,o=some ad∧x'=.slice (some ad') len cap∧len≤cap∧VR K (.slice (some ad') len cap) (.slice (some ad) len es)∧0<es∧(cap=0∨ad'.spot=none) ∧
   (0<cap→VR K (.pointer (some ad')) (.pointer (some ad))))∨(o=none∧len=0∧es=0∧x'=.slice none 0 0):=by
 generalize hv:Value.slice o len es=x at r
 cases r with
 | plain hp=>
   subst hv
   simp [V.plain] at hp
   obtain ⟨⟨rfl,h1⟩,h2⟩:=hp
   exact Or.inr ⟨rfl,h1,h2,by rw [h1,h2]⟩
 | @slice b g off len' cap es' l a' hk hl hes hlc hsp hor=>
   cases hv
   refine Or.inl ⟨_,a',cap,rfl,rfl,hlc,.slice hk hl hes hlc hsp hor,hes,hsp,fun hc=>?_⟩
   rcases hor with h0 | ⟨h1,h2,h3⟩
   · omega
   · have:a'=⟨l.blk,l.at_+(off - l.lo),none⟩:=by
      obtain ⟨x,y,z⟩:=a'
      simp only at h1 h2 hsp
      rw [h1,h2,hsp.resolve_left (by omega)]
     rw [this]
     exact .ptr hk hl
 | _=>cases hv
theorem a7t {x:Value} {n:Nat} (h:a8g x=some n):∃ k,x=.int k (Int.ofNat n):=by
 cases x with
 | int k m=>cases m with
   | ofNat m=>cases h; exact ⟨k,rfl⟩
   | negSucc m=>cases h
 | _=>cases h
theorem b8x (hT:TabOk P T) {t:TypeId} {x y:Operand} (h:a7b T fr t x y s=some (v,s')) (S:Sim B0 w0 K s.h w) (hf:VRL K a.tmps.toList fr) (hg:GK T K) :
 a0x P B0 w0 K s' (do pure (Next.value (← Instr.indexAt t (a.eval x) (a.eval y)))) w v:=by
 obtain ⟨vx,e1,q18h⟩:=a2r h
 obtain ⟨vy,e2,q19h⟩:=a2r q18h
 obtain ⟨d,hd,q20h⟩:=a1H q19h
 obtain ⟨i,hi,q21h⟩:=U2 q20h
 obtain ⟨k,rfl⟩:=a7t hi
 have ey:a.eval y=.int k (Int.ofNat i):=(a0k hf hg e2).eq_of_plain rfl
 rw [ey]
 generalize hu:d.und=u at q21h
 cases u with
 | array len elem=>
   obtain ⟨ad,rfl,q22h⟩:=a6N q21h
   obtain ⟨e,he,q23h⟩:=a1H q22h
   obtain ⟨hgd,q24h⟩:=U1 q23h
   obtain ⟨rfl,rfl⟩:=J8 q24h
   obtain ⟨ad',e3,r⟩:=a8w (a0k hf hg e1)
   simp only [Bool.and_eq_true] at hgd
   have hlt:i<len:=by simpa [Nat.blt_eq] using hgd.1
   refine a0x.quiet S rfl ?_ (r.fwd (i * e.size))
   rw [e3]
   simp [Instr.indexAt,asIntOf,a2f hT hd,hu,Instr.sureAddr,hlt,a2P hT he]
 | slice elem=>
   cases vx with
   | slice o len es=>
     obtain ⟨ad,rfl,q25h⟩:=U2 q21h
     obtain ⟨e,he,q26h⟩:=a1H q25h
     obtain ⟨hg1,q27h⟩:=U1 q26h
     obtain ⟨e',he',q28h⟩:=a1H q27h
     rw [he] at he'; cases he'
     obtain ⟨hgd,q29h⟩:=U1 q28h
     obtain ⟨rfl,rfl⟩:=J8 q29h
     simp only [Bool.and_eq_true] at hgd
     have hlt:i<len:=by simpa [Nat.blt_eq] using hgd.1
     rcases a5s (a0k hf hg e1) with ⟨ad1,ad',cap,q1,q2,q3,q4,q5,q6,q7⟩ | ⟨q1,_⟩
     · cases q1
       have r:=q7 (by omega)
       refine a0x.quiet S rfl ?_ (r.fwd (i * e.size))
       rw [q2]
       simp [Instr.indexAt,asIntOf,a2f hT hd,hu,hlt,a2P hT he]
     · cases q1
   | _=>exact absurd q21h (by intro q; cases q)
 | _=>exact absurd q21h (by intro q; cases q)
theorem VRL.get? {l' l:List Value} (h:VRL K l' l) {i:Nat} {x:Value} (e:l[i]?=some x):∃ x',l'[i]?=some x'∧VR K x' x:=by
 have hi:i<l.length:=(List.getElem?_eq_some_iff.1 e).1
 have hi':i<l'.length:=by rw [h.len]; exact hi
 exact ⟨l'[i],List.getElem?_eq_getElem hi',h.at_ i _ _ (List.getElem?_eq_getElem hi') e⟩
theorem b8q (hT:TabOk P T) {t:TypeId} {cs' cs:List Value} {off:Nat} {u:Value} (h:partV T t cs off s=some (u,s')) (hc:VRL K cs' cs) (w:World) :
 ∃ u',(part t cs'.toArray off).run P w=.ok u' w∧VR K u' u∧s'=s:=by
 obtain ⟨i,hi,q30h⟩:=a1H h
 unfold part
 simp only [Sem.run_bind,b5g hT hi,Result.andThen_ok]
 cases hag:b1W i.und with
 | true=>
   rw [hag] at q30h
   obtain ⟨rfl,rfl⟩:=J8 q30h
   refine ⟨.agg ((cs'.drop off).take i.size).toArray, ?_, ?_,rfl⟩
   · simp only [if_true,Sem.run_bind,a2P hT hi,Result.andThen_ok,Sem.run_pure]
     congr 2
     apply Array.ext'
     simp [List.extract]
   · rw [b0B,a5I]
     have:=(hc.drop off).take i.size
     exact .agg (by simpa using this.len) (by simpa using this.at_)
 | false=>
   rw [hag] at q30h
   obtain ⟨x,hx,q31h⟩:=U2 q30h
   obtain ⟨rfl,rfl⟩:=J8 q31h
   rw [a4v] at hx
   obtain ⟨x',q1,q2⟩:=hc.get? hx
   exact ⟨x',by simp [q1],q2,rfl⟩
theorem c3I {x':Value} {cs:Array Value} (r:VR K x' (.agg cs)):∃ cs',x'=.agg cs'∧VRL K cs'.toList cs.toList:=by
 generalize hv:Value.agg cs=x at r
 cases r with
 | plain hp=>subst hv; simp [V.plain] at hp
 | agg hl ih=>cases hv; exact ⟨_,rfl,⟨hl,ih⟩⟩
 | _=>cases hv
theorem c5r {x':Value} {cs:Array Value} (r:VR K x' (.tuple cs)):∃ cs',x'=.tuple cs'∧VRL K cs'.toList cs.toList:=by
 generalize hv:Value.tuple cs=x at r
 cases r with
 | plain hp=>subst hv; simp [V.plain] at hp
 | tuple hl ih=>cases hv; exact ⟨_,rfl,⟨hl,ih⟩⟩
 | _=>cases hv
theorem c5X (hT:TabOk P T) {t:TypeId} {x:Operand} {f:Nat} (h:b0r T fr t x f s=some (v,s')) (S:Sim B0 w0 K s.h w) (hf:VRL K a.tmps.toList fr) (hg:GK T K) :
 a0x P B0 w0 K s' (do pure (Next.value (← Instr.field t (a.eval x) f))) w v:=by
 obtain ⟨vx,e1,q32h⟩:=a2r h
 obtain ⟨d,hd,q33h⟩:=a1H q32h
 generalize hu:d.und=u at q33h
 cases u with
 | struct fields=>
   cases vx with
   | agg cs=>
     obtain ⟨fd,e2,q34h⟩:=U2 q33h
     obtain ⟨cs',e3,r⟩:=c3I (a0k hf hg e1)
     obtain ⟨u',q1,q2,rfl⟩:=b8q hT q34h r w
     rw [a4v] at e2
     have e2':fields[f]?=some fd:=by simpa using e2
     refine a0x.quiet S rfl ?_ q2
     rw [e3]
     simp [Instr.field,a2f hT hd,hu,e2',asAgg] at q1 ⊢
     exact q1
   | _=>exact absurd q33h (by intro q; cases q)
 | _=>exact absurd q33h (by intro q; cases q)
theorem c1E {x:Operand} {i:Nat} (h:a8n T fr x i s=some (v,s')) (S:Sim B0 w0 K s.h w) (hf:VRL K a.tmps.toList fr) (hg:GK T K) :
 a0x P B0 w0 K s' (do pure (Next.value (← Instr.extract (a.eval x) i))) w v:=by
 obtain ⟨vx,e1,q35h⟩:=a2r h
 split at q35h
 · rename_i cs
   obtain ⟨y,e2,q36h⟩:=U2 q35h
   obtain ⟨rfl,rfl⟩:=J8 q36h
   rw [a4v] at e2
   obtain ⟨cs',e3,r⟩:=c5r (a0k hf hg e1)
   obtain ⟨y',q1,q2⟩:=r.get? e2
   have q1':cs'[i]?=some y':=by simpa using q1
   refine a0x.quiet S rfl ?_ q2
   rw [e3]
   simp [Instr.extract,q1']
 · cases q35h
theorem c0f {o:Oper} {x:Operand} (ho:o.op=.nilCheck x) (h:a7K T fr x s=some (v,s')) (S:Sim B0 w0 K s.h w) (hf:VRL K a.tmps.toList fr) (hg:GK T K) :
 a0x P B0 w0 K s' (execOp a.eval o) w v:=by
 obtain ⟨o1,o2,o3,o4,o5,o6⟩:=o
 cases ho
 unfold execOp
 simp only
 obtain ⟨vx,e1,q37h⟩:=a2r h
 have r:=a0k hf hg e1
 split at q37h
 · rename_i o
   obtain ⟨hgd,q38h⟩:=U1 q37h
   obtain ⟨rfl,rfl⟩:=J8 q38h
   cases o with
   | none=>cases hgd
   | some ad=>
     obtain ⟨ad',e2,r'⟩:=a8w r
     rw [e2]
     exact ⟨_,w,K,rfl,Step.same S rfl,Or.inl ⟨_,rfl,r'⟩⟩
 · rename_i fn x1 x2
   obtain ⟨hgd,q39h⟩:=U1 q37h
   obtain ⟨rfl,rfl⟩:=J8 q39h
   cases fn with
   | func f=>
     generalize hv:Value.func (Fn.func f) x1 x2=y at r
     generalize hx:a.eval x=y' at r
     cases r with
     | plain hp=>subst hv; simp [V.plain] at hp
     | func h1 h2 h3 h4=>
       cases hv
       exact ⟨_,w,K,rfl,Step.same S rfl,Or.inl ⟨_,rfl,.func h1 h2 h3 h4⟩⟩
     | _=>cases hv
   | _=>cases hgd
 · cases q37h
theorem c5s (hT:TabOk P T) {t:TypeId} {x:Operand} (h:b0m T fr t x s=some (v,s')) (S:Sim B0 w0 K s.h w) (hf:VRL K a.tmps.toList fr) (hg:GK T K) :
 a0x P B0 w0 K s' (do pure (Next.value (← Instr.makeInterface t (a.eval x)))) w v:=by
 obtain ⟨vx,e1,q40h⟩:=a2r h
 obtain ⟨d,hd,q41h⟩:=a1H q40h
 obtain ⟨hgd,q42h⟩:=U1 q41h
 obtain ⟨rfl,rfl⟩:=J8 q42h
 refine a0x.quiet S rfl ?_ (.iface (a0k hf hg e1))
 unfold Instr.makeInterface
 simp only [Sem.run_bind,a2f hT hd,Result.andThen_ok]
 cases hu:d.und <;> first | rfl | (rw [hu] at hgd; cases hgd)
theorem c8N {fn:Fn} {x y:Array Operand} (h:b1x T fr fn x y s=some (v,s')) (S:Sim B0 w0 K s.h w) (hf:VRL K a.tmps.toList fr) (hg:GK T K) :
 a0x P B0 w0 K s' (do pure (Next.value (← Instr.makeFunc fn (x.map a.eval) (y.map a.eval)))) w v:=by
 obtain ⟨va,e1,q43h⟩:=a6Q h
 obtain ⟨vb,e2,q44h⟩:=a6Q q43h
 obtain ⟨rfl,rfl⟩:=J8 q44h
 have r1:=a6y hf hg e1
 have r2:=a6y hf hg e2
 exact a0x.quiet S rfl rfl (.func (by simpa using r1.len) (by simpa using r1.at_) (by simpa using r2.len) (by simpa using r2.at_))
end
end Go.V
end
section
namespace Go.V
open Go.RowKit (Below)
theorem b5A (off:Nat):∀ (l:List Value) (k0:Nat) (cells:Array Value),off+k0+l.length≤cells.size →
 ((l.zipIdx k0).foldl (fun acc x=>acc.setIfInBounds (off+x.2) x.1) cells).size=cells.size ∧
 ∀ k,((l.zipIdx k0).foldl (fun acc x=>acc.setIfInBounds (off+x.2) x.1) cells)[k]?=if off+k0≤k∧k<off+k0+l.length then l[k - (off+k0)]? else cells[k]?
 | [],k0,cells,_=>⟨rfl,fun k=>by rw [if_neg (by simp)]; rfl⟩
 | v::l,k0,cells,h=>by
   have h':off+(k0+1)+l.length≤(cells.setIfInBounds (off+k0) v).size:=by simp at h ⊢; omega
   obtain ⟨h1,h2⟩:=b5A off l (k0+1) (cells.setIfInBounds (off+k0) v) h'
   simp only [List.zipIdx_cons,List.foldl_cons]
   refine ⟨by rw [h1]; simp,fun k=>?_⟩
   rw [h2 k]
   simp only [List.length_cons] at h ⊢
   by_cases hk:k=off+k0
   · subst hk
     rw [if_neg (by omega),if_pos (by omega),Array.getElem?_setIfInBounds,if_pos rfl,if_pos (by omega),Nat.sub_self]; rfl
   · by_cases hk2:off+k0≤k∧k<off+k0+(l.length+1)
     · rw [if_pos (by omega),if_pos hk2,show k - (off+k0)=(k - (off+(k0+1)))+1 by omega]; simp
     · rw [if_neg (by omega),if_neg hk2,Array.getElem?_setIfInBounds,if_neg (fun q=>hk q.symm)]
theorem b5T:∀ (vs cs:List Value) (k:Nat),(a6w vs cs)[k]?=if k<vs.length∧k<cs.length then vs[k]? else cs[k]?:=by
 intro vs
 induction vs with
 | nil=>intro cs k; rfl
 | cons v vs ih=>
   intro cs k
   cases cs with
   | nil=>show ([]:List Value)[k]?=_; simp
   | cons c cs=>
     show (v::a6w vs cs)[k]?=_
     cases k with
     | zero=>simp
     | succ k=>simp [ih]
theorem a9J (vs:List Value):∀ (cs:List Value) (off k:Nat),(a4t vs cs off)[k]?=if off≤k∧k<off+vs.length∧k<cs.length then vs[k - off]? else cs[k]?:=by
 intro cs
 induction cs with
 | nil=>intro off k; show ([]:List Value)[k]?=_; simp
 | cons c cs ih=>
   intro off k
   cases off with
   | zero=>show (a6w vs (c::cs))[k]?=_; rw [b5T]; simp
   | succ off=>
     show (c::a4t vs cs off)[k]?=_
     cases k with
     | zero=>simp
     | succ k=>
       simp only [List.getElem?_cons_succ,ih,List.length_cons]
       by_cases hk:off≤k∧k<off+vs.length∧k<cs.length
       · rw [if_pos hk,if_pos (by omega),show k+1 - (off+1)=k - off by omega]
       · rw [if_neg hk,if_neg (by omega)]
theorem b1l (vs:List Value):∀ (cs:List Value) (off:Nat),(a4t vs cs off).length=cs.length:=by
 intro cs off
 apply Nat.le_antisymm
 · rcases Nat.lt_or_ge cs.length (a4t vs cs off).length with h | h
   · have:=a9J vs cs off cs.length
     rw [if_neg (by omega),List.getElem?_eq_none (Nat.le_refl _),List.getElem?_eq_getElem h] at this
     cases this
   · exact h
 · rcases Nat.lt_or_ge (a4t vs cs off).length cs.length with h | h
   · have h1:=a9J vs cs off (a4t vs cs off).length
     rw [List.getElem?_eq_none (Nat.le_refl _)] at h1
     by_cases hk:off≤(a4t vs cs off).length∧(a4t vs cs off).length<off+vs.length∧(a4t vs cs off).length<cs.length
     · rw [if_pos hk,List.getElem?_eq_getElem (by omega)] at h1; cases h1
     · rw [if_neg hk,List.getElem?_eq_getElem h] at h1; cases h1
   · exact h
theorem b3c {K:KM} {ρ:Operand→Value} (place:Nat→Option (Nat×Nat)):∀ (qs:List (Nat×Operand)) (vs cs cs2 cs':List Value),
 b0G place qs vs cs=some cs2→VRL K (qs.map fun q=>ρ q.2) vs→VRL K cs' cs →
 ∃ cs2',Instr.fill place cs'.toArray (qs.map fun q=>(q.1, ρ q.2))=some cs2'.toArray∧VRL K cs2' cs2:=by
 intro qs
 induction qs with
 | nil=>intro vs cs cs2 cs' h hv hc; cases h; exact ⟨cs',rfl,hc⟩
 | cons q qs ih=>
   intro vs cs cs2 cs' h hv hc
   cases vs with
   | nil=>have:=hv.len; simp at this
   | cons v vs=>
     have h':(match place q.1 with | none=>none | some os=>match Nat.beq (L9 v.cells.toList) os.2 && Nat.ble (os.1+os.2) (L9 cs) with | true=>b0G place qs vs (a4t v.cells.toList cs os.1) | false=>none)=some cs2:=h
     cases hp:place q.1 with
     | none=>rw [hp] at h'; cases h'
     | some os=>
       obtain ⟨off,size⟩:=os
       rw [hp] at h'
       dsimp only at h'
       cases hb:Nat.beq (L9 v.cells.toList) size && Nat.ble (off+size) (L9 cs) with
       | false=>rw [hb] at h'; cases h'
       | true=>
         rw [hb] at h'
         simp only [Bool.and_eq_true,Z5] at hb
         have hb1:=Nat.eq_of_beq_eq_true hb.1
         have hb2:=Nat.le_of_ble_eq_true hb.2
         have hvc:=(hv.head).cells
         have hsz:(ρ q.2).cells.size=size:=by rw [← Array.length_toList,hvc.len,hb1]
         have hcs:cs'.length=cs.length:=hc.len
         obtain ⟨f1,f2⟩:=b5A off (ρ q.2).cells.toList 0 cs'.toArray (by simp [hsz]; omega)
         let nc:=(((ρ q.2).cells.toList.zipIdx 0).foldl (fun acc x=>acc.setIfInBounds (off+x.2) x.1) cs'.toArray)
         have hrel:VRL K nc.toList (a4t v.cells.toList cs off):=by
          refine ⟨by rw [b1l]; simpa [nc,hcs] using f1,fun i x' x e e'=>?_⟩
          have g1:nc[i]?=some x':=by simpa using e
          rw [f2 i] at g1
          rw [a9J] at e'
          simp only [Nat.add_zero,Array.length_toList,hsz] at g1
          by_cases hk:off≤i∧i<off+size
          · rw [if_pos hk] at g1
            rw [if_pos (by rw [hb1]; omega)] at e'
            exact hvc.at_ _ _ _ g1 e'
          · rw [if_neg hk] at g1
            rw [if_neg (by rw [hb1]; omega)] at e'
            exact hc.at_ i x' x (by simpa using g1) e'
         obtain ⟨cs2',r1,r2⟩:=ih vs _ cs2 nc.toList h' hv.tail hrel
         refine ⟨cs2', ?_,r2⟩
         have hcond:¬ (off+size > cs'.length):=by omega
         simp only [List.map_cons,Instr.fill,hp,hsz]
         simp only [ne_eq,not_true_eq_false,decide_false,Bool.false_or,List.size_toArray,hcond]
         rw [← r1]
         congr 1
         rw [← Array.foldl_toList]
         simp [nc,Array.toList_zipIdx]
section
variable {P:Program} {T:Tab} {B0:Nat} {w0:Base} {w:World} {K:KM} {s s':S} {a:Act} {fr:List Value} {v:Value}
theorem b5x (hT:TabOk P T):∀ (fs:List Field),(∀ f∈fs,c1J T f=true) →
 ∃ places:List (Nat×Nat),fs.mapM (fun f=>(P.info? f.type).map fun i=>(f.offset,i.size))=some places∧∀ j,places[j]?=a7a T fs j
 | [],_=>⟨[],rfl,fun j=>rfl⟩
 | f::fs,h=>by
   obtain ⟨places,h1,h2⟩:=b5x hT fs (fun g hg=>h g (List.mem_cons_of_mem _ hg))
   have hf:=h f (List.mem_cons_self ..)
   unfold c1J at hf
   obtain ⟨i,hi⟩:=Option.isSome_iff_exists.1 hf
   obtain ⟨info,g1,_,g3,_⟩:=hT.types _ _ hi
   refine ⟨(f.offset,i.size)::places,by simp [List.mapM_cons,g1,g3,h1],fun j=>?_⟩
   cases j with
   | zero=>simp [a7a,a4v,hi]
   | succ j=>have:=h2 j; simpa [a7a,a4v] using this
theorem c6p (hT:TabOk P T) {t:TypeId} {ps:Array (Nat×Operand)} (h:b0v T fr t ps s=some (v,s')) (S:Sim B0 w0 K s.h w) (hf:VRL K a.tmps.toList fr) (hg:GK T K) :
 a0x P B0 w0 K s' (do pure (Next.value (← Instr.build t (ps.map fun (i,x)=>(i,a.eval x))))) w v:=by
 obtain ⟨vs,e1,h1⟩:=a6Q h
 obtain ⟨i,hi,h2⟩:=a1H h1
 obtain ⟨hz,h3⟩:=U1 h2
 obtain ⟨info,g1,g2,g3,g4,g5,g6⟩:=hT.types t i hi
 have hzz:VRL K i.zero.cells.toList i.zero.cells.toList:=(a2O (K:=K) _ _ hz).cells
 rw [a3I] at e1
 have hv:=a6y hf hg e1
 have hv':VRL K (ps.toList.map fun q=>a.eval q.2) vs:=by rw [List.map_map] at hv; exact hv
 have hparts:(ps.map fun (i,x)=>(i,a.eval x)).toList=ps.toList.map fun q=>(q.1,a.eval q.2):=by simp
 generalize hu:i.und=u at h3
 cases u with
 | struct fields=>
   obtain ⟨hfs,h4⟩:=U1 h3
   obtain ⟨cs,hcs,h5⟩:=U2 h4
   obtain ⟨rfl,rfl⟩:=J8 h5
   rw [a0y] at hfs
   obtain ⟨places,p1,p2⟩:=b5x hT fields.toList hfs
   obtain ⟨cs2',r1,r2⟩:=b3c (ρ:=a.eval) _ ps.toList vs _ cs _ hcs hv' hzz
   refine a0x.quiet (v':=.agg cs2'.toArray) S rfl ?_ (.agg (by simpa using r2.len) (by simpa using r2.at_))
   apply run_build
   unfold Program.built
   rw [g1,g2,hu,hparts]
   have hpl:(fun x=>places.toArray[x]?)=a7a T fields.toList:=by funext j; rw [← p2 j]; simp
   simp only [g5,p1,hpl]
   simpa using r1
 | array n elem=>
   obtain ⟨e,he,h4⟩:=a1H h3
   obtain ⟨cs,hcs,h5⟩:=U2 h4
   obtain ⟨rfl,rfl⟩:=J8 h5
   obtain ⟨einfo,k1,_,k3,_⟩:=hT.types elem e he
   obtain ⟨cs2',r1,r2⟩:=b3c (ρ:=a.eval) _ ps.toList vs _ cs _ hcs hv' hzz
   refine a0x.quiet (v':=.agg cs2'.toArray) S rfl ?_ (.agg (by simpa using r2.len) (by simpa using r2.at_))
   apply run_build
   unfold Program.built
   rw [g1,g2,hu,hparts]
   simp only [g5,k1,k3]
   have:(fun i:Nat=>some (i * e.size,e.size))=a5C e.size:=rfl
   rw [this]
   simpa using r1
 | _=>exact absurd h3 (by intro q; cases q)
theorem a8e (zs:List Value) (n:Nat):(a5T zs n).length=n * zs.length:=by
 induction n with
 | zero=>show ([]:List Value).length=_; simp
 | succ n ih=>show (M4 zs (a5T zs n)).length=_; rw [N9,List.length_append,ih]; rw [Nat.succ_mul]; omega
theorem c5L (zs:List Value):∀ (n k:Nat),k<n * zs.length→(a5T zs n)[k]?=zs[k % zs.length]?:=by
 intro n
 induction n with
 | zero=>intro k h; simp at h
 | succ n ih=>
   intro k h
   show (M4 zs (a5T zs n))[k]?=_
   rw [N9]
   by_cases hk:k<zs.length
   · rw [List.getElem?_append_left hk,Nat.mod_eq_of_lt hk]
   · rw [List.getElem?_append_right (by omega),ih _ (by rw [Nat.succ_mul] at h; omega)]
     rw [Nat.mod_eq_sub_mod (Nat.le_of_not_lt hk)]
theorem b2X (z:Array Value) (n:Nat) (hz:0<z.size):((Array.range (n * z.size)).map (fun i=>z[i % z.size]!)).toList=a5T z.toList n:=by
 apply List.ext_getElem?
 intro k
 by_cases hk:k<n * z.size
 · rw [c5L _ n k (by simpa using hk)]
   have hm:k % z.size<z.size:=Nat.mod_lt _ hz
   simp [hk,hm]
 · rw [List.getElem?_eq_none (by simp; omega),List.getElem?_eq_none (by rw [a8e]; simp; omega)]
theorem VRL.repl {zs:List Value} (h:VRL K zs zs) (n:Nat):VRL K (a5T zs n) (a5T zs n):=by
 induction n with
 | zero=>exact VRL.nil K
 | succ n ih=>show VRL K (M4 zs (V.a5T zs n)) (M4 zs (V.a5T zs n)); rw [N9]; exact h.append ih
theorem b5K (hT:TabOk P T) {t:TypeId} {len:Nat} {ps:Array (Nat×Operand)} (h:a6J T fr t len ps s=some (v,s')) (S:Sim B0 w0 K s.h w) (F:a2C K s s') (hf:VRL K a.tmps.toList fr) (hg:GK T K) :
 a0x P B0 w0 K s' (do pure (Next.value (← Instr.buildSlice t len (ps.map fun (i,x)=>(i,a.eval x))))) w v:=by
 obtain ⟨vs,e1,h1⟩:=a6Q h
 obtain ⟨d,hd,h2⟩:=a1H h1
 rw [a3I] at e1
 have hv:=a6y hf hg e1
 have hv':VRL K (ps.toList.map fun q=>a.eval q.2) vs:=by rw [List.map_map] at hv; exact hv
 have hparts:(ps.map fun (i,x)=>(i,a.eval x)).toList=ps.toList.map fun q=>(q.1,a.eval q.2):=by simp
 generalize hu:d.und=u at h2
 cases u with
 | slice elem=>
   obtain ⟨e,he,h3⟩:=a1H h2
   obtain ⟨hgd,h4⟩:=U1 h3
   obtain ⟨cs,hcs,h5⟩:=U2 h4
   obtain ⟨ad,s1,h6,h7⟩:=O7 h5
   obtain ⟨rfl,rfl⟩:=J8 h7
   simp only [Bool.and_eq_true] at hgd
   obtain ⟨⟨⟨q1,q2⟩,q3⟩,q4⟩:=hgd
   have q2:=b3F q2
   have q4:=Nat.le_of_ble_eq_true q4
   obtain ⟨info,g1,g2,g3,g4,g5,g6⟩:=hT.types elem e he
   have hzz:VRL K e.zero.cells.toList e.zero.cells.toList:=(a2O (K:=K) _ _ q3).cells
   obtain ⟨cs2',r1,r2⟩:=b3c (ρ:=a.eval) _ ps.toList vs _ cs _ hcs hv' (hzz.repl len)
   obtain ⟨K',k1,k2,rfl⟩:=a8Z h6 S F r2 elem
   have hlen:cs2'.length=len * e.size:=by
    have:∀ (qs:List (Nat×Operand)) vs cs cs2,b0G (a5C e.size) qs vs cs=some cs2→cs2.length=cs.length:=by
     intro qs
     induction qs with
     | nil=>intro vs cs cs2 h; cases h; rfl
     | cons q qs ih=>
       intro vs cs cs2 h
       cases vs with
       | nil=>cases h
       | cons v vs=>
         have h':(match Nat.beq (L9 v.cells.toList) e.size && Nat.ble (q.1 * e.size+e.size) (L9 cs) with | true=>b0G (a5C e.size) qs vs (a4t v.cells.toList cs (q.1 * e.size)) | false=>none)=some cs2:=h
         split at h'
         · rw [ih _ _ _ h',b1l]
         · cases h'
    rw [r2.len,this _ _ _ _ hcs,a8e,Array.length_toList,g6]
   refine a0x.step (v':=.slice (some ⟨w.heap.size, 0,none⟩) len len) (w':=w.alloc (.cells cs2'.toArray elem)) ?_ k1 ?_
   · have hsm:¬ len * e.size > 2 ^ 24:=by omega
     by_cases h0:len * e.size=0
     · have hl0:len=0:=by
        rcases Nat.mul_eq_zero.1 h0 with h | h
        · exact h
        · exact absurd h q2
       subst hl0
       simp only [Instr.buildSlice,Sem.run_bind,a2f hT hd,hu,Result.andThen_ok,a2P hT he,hparts]
       have hr:(fun i=>some (i * e.size,e.size))=a5C e.size:=rfl
       have r1':Instr.fill (a5C e.size) #[] (List.map (fun q=>(q.fst,a.eval q.snd)) ps.toList)=some cs2'.toArray:=r1
       have hr0:Array.range 0=#[]:=rfl
       simp [hr,newRow,hr0,r1']
     · have hr:(fun i=>some (i * e.size,e.size))=a5C e.size:=rfl
       have:=run_buildSlice w t elem len (ps.map fun (i,x)=>(i,a.eval x)) cs2'.toArray info e.zero (by rw [← hu]; exact (hT.types t d hd).choose_spec.2.1) g1 g5 (by rw [g3]; exact hsm) (by rw [g3]; exact h0)
        (by
          rw [g3,hr,hparts, ← r1]
          congr 1
          apply Array.ext'
          have hz:=b2X e.zero.cells len (by rw [g6]; omega)
          rw [g6] at hz
          simpa [g6] using hz)
       exact this
   · refine VR.slice (off:=0) k2 (Nat.zero_le _) (by omega) (Nat.le_refl _) (Or.inr rfl) ?_
     refine Or.inr ⟨rfl,rfl,fun _=>?_⟩
     dsimp only
     rw [hlen]; omega
 | _=>exact absurd h2 (by intro q; cases q)
end
end Go.V
end
section
namespace Go.V
open Go.RowKit (Below)
section
variable {P:Program} {T:Tab} {B0:Nat} {w0:Base} {w:World} {K:KM} {s s':S} {a:Act} {fr:List Value} {v:Value}
theorem b3J (n:Nat) (h:n<9223372036854775808):IntKind.i64.wrap (Int.ofNat n)=Int.ofNat n:=by
 unfold IntKind.wrap
 have e1:(2 ^ IntKind.i64.bits:Int)=18446744073709551616:=rfl
 have e2:(2 ^ (IntKind.i64.bits - 1):Int)=9223372036854775808:=rfl
 rw [e1,e2]
 have:(Int.ofNat n) % 18446744073709551616=Int.ofNat n:=Int.emod_eq_of_lt (by simp) (by have:(Int.ofNat n)=(n:Int):=rfl; omega)
 rw [this]
 simp only [Int.ofNat_eq_natCast]
 rw [if_neg (by simp; omega)]
theorem c5G (zs:List Value) (m n:Nat):a5T zs (m+n)=a5T zs m ++ a5T zs n:=by
 induction m with
 | zero=>rw [Nat.zero_add]; rfl
 | succ m ih=>
   rw [show m+1+n=(m+n)+1 by omega]
   show M4 zs (a5T zs (m+n))=M4 zs (a5T zs m) ++ a5T zs n
   rw [N9,N9,ih,List.append_assoc]
theorem c8E (hT:TabOk P T) {t:TypeId} {x y:Operand} (h:b1N T fr t x y s=some (v,s')) (S:Sim B0 w0 K s.h w) (F:a2C K s s') (hf:VRL K a.tmps.toList fr) (hg:GK T K) :
 a0x P B0 w0 K s' (do pure (Next.value (← Instr.makeSlice t (a.eval x) (a.eval y)))) w v:=by
 obtain ⟨vx,e1,h1⟩:=a2r h
 obtain ⟨vy,e2,h2⟩:=a2r h1
 obtain ⟨d,hd,h3⟩:=a1H h2
 generalize hu:d.und=u at h3
 cases u with
 | slice elem=>
   obtain ⟨e,he,h4⟩:=a1H h3
   obtain ⟨l,hl,h5⟩:=U2 h4
   obtain ⟨c,hc,h6⟩:=U2 h5
   obtain ⟨hgd,h7⟩:=U1 h6
   obtain ⟨ad,s1,h8,h9⟩:=O7 h7
   obtain ⟨rfl,rfl⟩:=J8 h9
   obtain ⟨k1,rfl⟩:=a7t hl
   obtain ⟨k2,rfl⟩:=a7t hc
   have ex:a.eval x=.int k1 (Int.ofNat l):=(a0k hf hg e1).eq_of_plain rfl
   have ey:a.eval y=.int k2 (Int.ofNat c):=(a0k hf hg e2).eq_of_plain rfl
   simp only [Bool.and_eq_true] at hgd
   obtain ⟨⟨⟨⟨⟨q1,q2⟩,q3⟩,q4⟩,q5⟩,q6⟩:=hgd
   have q1:=Nat.le_of_ble_eq_true q1
   have q2:c<4294967296:=by simpa [Nat.blt_eq,a6r] using q2
   have q3:e.bytes<4096:=by simpa [Nat.blt_eq] using q3
   have q5:=b3F q5
   obtain ⟨info,g1,g2,g3,g4,g5,g6⟩:=hT.types elem e he
   have hzz:VRL K e.zero.cells.toList e.zero.cells.toList:=(a2O (K:=K) _ _ q6).cells
   have hzpos:0<e.zero.cells.size:=by rw [g6]; omega
   let arr:Array Value:=(Array.range (c * e.size)).map (fun i=>e.zero.cells[i % e.zero.cells.size]!)
   have harr:arr.toList=a5T e.zero.cells.toList c:=by
    have:=b2X e.zero.cells c hzpos
    simpa [arr,g6] using this
   have hsz:arr.size=c * e.size:=by simp [arr]
   obtain ⟨K',r1,r2,rfl⟩:=a6A (w':=w.alloc (.cells arr elem)) (arr:=arr) (e:=elem) (fz:=(0, 0)) (rest:=a5T e.zero.cells.toList (c - l)) h8 S F (hzz.repl l) (Grew.alloc _ _)
    (by show (w.heap.push _)[w.heap.size]?=_; simp) (by rw [harr, ← c5G]; congr 1; omega) (fun o _=>by simp)
   refine a0x.step (v':=.slice (some ⟨w.heap.size, 0,none⟩) l c) (w':=w.alloc (.cells arr elem)) ?_ r1 ?_
   · rw [ex,ey]
     have hb:(e.bytes:Int) * Int.ofNat c<2 ^ 48:=by
      have h1:e.bytes * c<4096 * 4294967296:=by
       rcases Nat.eq_zero_or_pos c with h0 | h0
       · subst h0; simp
       · exact Nat.lt_of_lt_of_le (Nat.mul_lt_mul_of_pos_right q3 h0) (Nat.mul_le_mul_left _ (by omega))
      have:(e.bytes:Int) * Int.ofNat c=((e.bytes * c:Nat):Int):=by simp
      rw [this]; omega
     have hb':¬ ((e.bytes:Int) * (c:Int) > 281474976710656):=by
      have:(e.bytes:Int) * Int.ofNat c=(e.bytes:Int) * (c:Int):=rfl
      omega
     simp only [Instr.makeSlice,Sem.run_bind,a2f hT hd,hu,Result.andThen_ok,asInt,asIntOf,Sem.run_pure,typeInfo,run_program,g1,b3J l (by omega),b3J c (by omega),g4]
     have hcond:(decide (Int.ofNat c<0) || decide ((e.bytes:Int) * Int.ofNat c > 2 ^ 48) || decide (Int.ofNat l<0) || decide (Int.ofNat l > Int.ofNat c))=false:=by
      simp only [Bool.or_eq_false_iff,decide_eq_false_iff_not]
      refine ⟨⟨⟨?_, ?_⟩, ?_⟩, ?_⟩ <;> simp only [Int.ofNat_eq_natCast,Int.reducePow] at * <;> omega
     simp only [hcond,Bool.false_eq_true,if_false,run_askRoom,Sem.run_bind,Result.andThen_ok,a2P hT he]
     have hfin:∀ z:Array Value,(z=e.zero.cells∨c * e.size=0)→(Array.range (c * e.size)).map (fun x=>z[x % z.size]!)=arr:=by
      intro z hz
      rcases hz with rfl | h0
      · rfl
      · have hr0:Array.range 0=#[]:=rfl
        simp [h0,arr,hr0]
     simp only [Int.ofNat_eq_natCast,Int.toNat_natCast] at *
     by_cases h0:c * e.size=0
     · rw [if_pos h0]
       simp only [Sem.run_bind,Sem.run_pure,Result.andThen_ok,newRow,run_newObj]
       rw [hfin #[] (Or.inr h0)]
       rfl
     · rw [if_neg h0]
       simp only [Sem.run_bind,a9d hT he,Sem.run_pure,Result.andThen_ok,newRow,run_newObj]
       rw [hfin _ (Or.inl rfl)]
       rfl
   · refine VR.slice (off:=0) r2 (Nat.zero_le _) (by omega) q1 (Or.inr rfl) (Or.inr ⟨rfl,rfl,fun _=>?_⟩)
     dsimp only
     rw [hsz]; omega
 | _=>exact absurd h3 (by intro q; cases q)
end
end Go.V
end
