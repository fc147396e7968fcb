/- AsmParses: for every text and every scope of names the law returns true: the row (the second form), and its tied card. Conditions: those of the given row alone (the listed package variables hold what the text of the program lays). The other texts of the folder: an evaluator of the code of the model, proved sound; the plain forms of the functions; their contracts, for the parser of the program and for that of the reference. Made short by a program (names, blanks). -/
import Derived.Test.YtmomonnlmbljoaaGreatDoorTie
import Derived.Test.YtmomonnlmbljoaaGreatDoorCards
import Derived.Test.YtmomonnlmbljoaaGreatDoorGbm
set_option maxRecDepth 1000000
set_option maxHeartbeats 4000000
set_option linter.unusedVariables false
set_option linter.unusedSimpArgs false
section
namespace Go.Proofs.YtmomonnlmbljoaaGreatDoor.S
open Go.V Go.RowKit Go.ChangeShapes Go.WideShapes Go.ChangeAt
theorem Tryz.ownK:ownKnob Tryz.prog.godebug=none:=zw
theorem Tryz.laidOutK:laidOutB Tryz.prog=true:=zw
theorem c4g {H:Type}{enc:TypeId×Value->H}{W:World}{base:Nat}{args:Array Value}{ds gs:List (DataW H)}{before:List MemPlace}(hval0:∀(j:Nat) t v,Tryz.f8.params[j]?=some t->args[j]?=some v->Value.okWide Tryz.prog W .any base t v)(hW:DataW.Whole enc Tryz.prog Tryz.f8.params.toList Rows.asmParsesSpec.vars false W args.toList ds gs before)(hX:laidMet Tryz.prog Rows.asmParsesUptoRow.laid W)(hS:W.ShapedOpen Tryz.prog)(hk:Rows.uptoBulkAll (ds++gs)<=1048576):Calls Tryz.prog 8 args W λe W'=>∃v,e=.returned v/\Rows.asmParsesSpec.post enc Tryz.prog Tryz.f8 false true false false W args v W':=by
 have hval:=hval0;have hW':=hW;obtain⟨p,q,hA0,hV,rfl,hfz,hnd⟩:=hW;have hA:DataW.TrodAll enc Tryz.prog W 0 (λ_=>true) true Tryz.f8.params.toList args.toList ds p:=hA0;rw[Tryz.params8]at hA hval;obtain⟨v0,v1,d0,d1,p0,p1,rfl,rfl,rfl,h0,h1⟩:=trodAll_two hA;obtain⟨rfl,rfl⟩:=trodVars_none hV;obtain⟨mL,hL⟩:=d2n hX hS;refine(c1p hL (hval 0 9 v0 rfl rfl) (hval 1 54 v1 rfl rfl) h0 h1 (by simpa using hk)).mono λe W' ⟨he,hb⟩=>?_;subst he;have hlt:∀x∈p0++p1,x.block<W.heap.size:=λx hx=>by simpa using hW'.lt x (by simpa using hx)
 refine⟨_,rfl,_,_,_,[],p0++p1,[],hW',?_,?_,?_,hb.frame _,λh=>zZ⟩;exact trodAll_mk1 (shut_bool sO true);exact trodAll_mk2 (Below.trod Tryz.laidOutK zw (wP zw) h0 hb (λx hx=>hlt x (List.mem_append_left _ hx))) (Below.trod Tryz.laidOutK zw (wP zw) h1 hb (λx hx=>hlt x (List.mem_append_right _ hx)));rfl
noncomputable def a8k:Array Value:=#[.string ⟨⟨[]⟩⟩,.agg #[.slice none 0 0,.slice none 0 0,.slice none 0 0,.slice none 0 0,.slice none 0 0,.slice none 0 0,.slice none 0 0,.slice none 0 0,.slice none 0 0,.slice none 0 0]]
theorem c1m (os:Os)(args:Array Value):laidMet Tryz.prog Rows.asmParsesUptoRow.laid ((World.laidAll Tryz.prog os Rows.asmParsesUptoRow.laid).forCall (λ_ _=>0) ⟨#[],args,[]⟩).memory:=laidMet_laidAll args zw zw
theorem b6r (os:Os)(args:Array Value):((World.laidAll Tryz.prog os Rows.asmParsesUptoRow.laid).forCall (λ_ _=>0) ⟨#[],args,[]⟩).Shaped Tryz.prog:=World.shaped_of_ZipB zw zw
noncomputable def c4T {H:Type}:List (DataW H):=[.lit (.string []),.agg [.agg [.nil,.nil,.nil,.nil,.nil,.nil,.nil,.nil,.nil],.nil]]
theorem c3m (os:Os){H:Type}(enc:TypeId×Value->H):DataW.whole enc Tryz.prog ((World.laidAll Tryz.prog os Rows.asmParsesUptoRow.laid).forCall (λ_ _=>0) ⟨#[],a8k,[]⟩).memory Tryz.f8.params.toList (Rows.OpenSpec.upto Rows.asmParsesSpec).vars false a8k.toList 12=some (c4T,[],[]):=zw
theorem c1j {H:Type}:Rows.uptoSmall H (c4T++[])=true:=zw
theorem b8n (os:Os):Input.okWideB Tryz.prog ((World.laidAll Tryz.prog os Rows.asmParsesUptoRow.laid).forCall (λ_ _=>0) ⟨#[],a8k,[]⟩) 8 ⟨#[],a8k,[]⟩=true:=zw
theorem c4n (os:Os){H:Type}(enc:TypeId×Value->H):(Rows.OpenSpec.upto Rows.asmParsesSpec).bare.sizedB enc Tryz.prog Tryz.f8 false ((World.laidAll Tryz.prog os Rows.asmParsesUptoRow.laid).forCall (λ_ _=>0) ⟨#[],a8k,[]⟩).memory a8k 12=true:=zw
theorem b9o (os:Os) (started:os.Started) (H:Type) (enc:TypeId×Value→H) (F:Stop.Interp) :
 ReturnsInHanded {} Tryz.checked os 8 .any ((Rows.OpenSpec.upto Rows.asmParsesSpec).preRow enc Tryz.prog Tryz.f8 Rows.asmParsesUptoRow.domain false Rows.asmParsesUptoRow.laid) (((Rows.OpenSpec.upto Rows.asmParsesSpec).at F).post enc Tryz.prog Tryz.f8 false true false false):=by
 have hx:=c3m os enc
 refine returnsInHanded_of_row (C:=Tryz.checked) (s:=Rows.OpenSpec.upto Rows.asmParsesSpec) Tryz.ownK started zw Tryz.func8
  ⟨World.laidAll Tryz.prog os Rows.asmParsesUptoRow.laid,fun _ _=>0,⟨#[],a8k, []⟩,World.laidAll_os _ _ _,b6r os _,(pY (base:=0) (b8n os)).1,(pY (b8n os)).2,
   OpenSpec.preRow_of_cond 12 hx (show List.all [] _=true from rfl) (fun k hk=>by cases hk; exact c1j) (c4n os enc) (c1m os _),by
    simp only [Assume.holds]
    exact ⟨zn,zn,fun _=>Modest.zero,zn,zn⟩⟩ ?_
 intro W base args ds gs before hval hW _ hcond _ hL hS _
 exact c4g hval hW hL hS (wP (hcond _ rfl))
theorem c4r:Rows.AsmParsesUptoSaid:=OpenClaim.holds_of_cond 8 Tryz.f8 rfl rfl rfl rfl rfl rfl rfl ⟨rfl,rfl,rfl,rfl,rfl⟩ rfl rfl rfl rfl rfl zw Tryz.func8 zw (wP zw) (by unfold Func.isWrapper;rw[vg (vR zw)];exact⟨rfl,rfl⟩) (λos started H enc _ F=>by rw[OpenClaim.pre_eq_preRow];exact b9o os started H enc F)
theorem asmParses_holds:Rows.AsmParsesUptoCardSaid:=Claim7.holds_tied_plain_at .later [] _ _ _ _ c4r (λ_ h=>zZ) zw (λ_ h=>zZ) asmParsesUpto_row_tie rfl ⟨rfl,rfl⟩ zw rfl (λf fn hf hfn=>by
 obtain rfl:f=8:=uJ ((show Tryz.prog.funcNamed Rows.asmParsesUptoRow.func=some 8 by kernel_rfl).symm.trans hf)|>.symm;obtain rfl:fn=Tryz.f8:=(uJ (Tryz.func8.symm.trans hfn)).symm;refine⟨zw,λj t ht=>?_⟩;rw[Tryz.params8]at ht;have h3:t=9\/t=54:=by simpa using Array.mem_of_getElem? ht
 rcases h3 with rfl|rfl;exact(show Tryz.prog.wantsStandIn 9=false by kernel_rfl);exact(show Tryz.prog.wantsStandIn 54=false by kernel_rfl)) zw
end Go.Proofs.YtmomonnlmbljoaaGreatDoor.S
end
