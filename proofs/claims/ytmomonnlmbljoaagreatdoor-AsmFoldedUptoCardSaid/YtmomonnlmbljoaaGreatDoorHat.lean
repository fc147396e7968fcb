import Derived.Test.YtmomonnlmbljoaaGreatDoorHag
import Derived.Test.YtmomonnlmbljoaaGreatDoorHam
import Derived.Test.YtmomonnlmbljoaaGreatDoorHan
import Derived.Test.YtmomonnlmbljoaaGreatDoorHao
import Derived.Test.YtmomonnlmbljoaaGreatDoorHap
import Derived.Test.YtmomonnlmbljoaaGreatDoorHaq
import Derived.Test.YtmomonnlmbljoaaGreatDoorHar
import Derived.Test.YtmomonnlmbljoaaGreatDoorHas
set_option maxRecDepth 1000000
set_option maxHeartbeats 4000000
set_option linter.unusedVariables false
set_option linter.unusedSimpArgs false
section
namespace Go.Proofs.YtmomonnlmbljoaaGreatDoor
open Go.V Go.RowKit Go.Shelf Go.Proofs
variable {mL:Int}
noncomputable abbrev NN:Nat:=100000
structure FE where
 f:Nat
 g:A8→List Value→M CR
 h:Fit Tryz.prog tab a4D NN f g
noncomputable abbrev F0 (f:Nat)(sh:Cb->Nat->A8->M CR){fn:Func}{c:Code}{pl:Pl}(h:∀cb N call,a1m Tryz.prog tab cb false N call fn c pl []=sh cb N call:=by exactλ_ _ _=>rfl)(he:a4D f=none:=by rfl)(hf:tab.funcs.get f=some fn:=by kernel_rfl)(hb:fn.body=some c:=by rfl):FE:=⟨f,_,e2C he hf hb h⟩
noncomputable abbrev F1 (f:Nat)(sh:Cb->Nat->A8->Value->M CR){fn:Func}{c:Code}{pl:Pl}(h:∀cb N call a,a1m Tryz.prog tab cb false N call fn c pl [a]=sh cb N call a:=by exactλ_ _ _ _=>rfl)(he:a4D f=none:=by rfl)(hf:tab.funcs.get f=some fn:=by kernel_rfl)(hb:fn.body=some c:=by rfl):FE:=⟨f,_,e1Z he hf hb h⟩
noncomputable abbrev F2 (f:Nat)(sh:Cb->Nat->A8->Value->Value->M CR){fn:Func}{c:Code}{pl:Pl}(h:∀cb N call a b,a1m Tryz.prog tab cb false N call fn c pl [a,b]=sh cb N call a b:=by exactλ_ _ _ _ _=>rfl)(he:a4D f=none:=by rfl)(hf:tab.funcs.get f=some fn:=by kernel_rfl)(hb:fn.body=some c:=by rfl):FE:=⟨f,_,e0v he hf hb h⟩
noncomputable abbrev F3 (f:Nat)(sh:Cb->Nat->A8->Value->Value->Value->M CR){fn:Func}{c:Code}{pl:Pl}(h:∀cb N call a b d,a1m Tryz.prog tab cb false N call fn c pl [a,b,d]=sh cb N call a b d:=by exactλ_ _ _ _ _ _=>rfl)(he:a4D f=none:=by rfl)(hf:tab.funcs.get f=some fn:=by kernel_rfl)(hb:fn.body=some c:=by rfl):FE:=⟨f,_,e0D he hf hb h⟩
noncomputable abbrev F4 (f:Nat)(sh:Cb->Nat->A8->Value->Value->Value->Value->M CR){fn:Func}{c:Code}{pl:Pl}(h:∀cb N call a b d e,a1m Tryz.prog tab cb false N call fn c pl [a,b,d,e]=sh cb N call a b d e:=by exactλ_ _ _ _ _ _ _=>rfl)(he:a4D f=none:=by rfl)(hf:tab.funcs.get f=some fn:=by kernel_rfl)(hb:fn.body=some c:=by rfl):FE:=⟨f,_,e0M he hf hb h⟩
noncomputable abbrev F5 (f:Nat)(sh:Cb->Nat->A8->Value->Value->Value->Value->Value->M CR){fn:Func}{c:Code}{pl:Pl}(h:∀cb N call a b d e g,a1m Tryz.prog tab cb false N call fn c pl [a,b,d,e,g]=sh cb N call a b d e g:=by exactλ_ _ _ _ _ _ _ _=>rfl)(he:a4D f=none:=by rfl)(hf:tab.funcs.get f=some fn:=by kernel_rfl)(hb:fn.body=some c:=by rfl):FE:=⟨f,_,e3b he hf hb h⟩
noncomputable abbrev FX (f:Nat)(g:List Value->M Value)(he:a4D f=some g:=by rfl):FE:=⟨f,_,d0Y he⟩
noncomputable def mkT (l:List FE):a0g:=List.rec (motive:=λ_=>a0g) .leaf (λe _ t=>Trie.put (some e.g) (e.f+1) t e.f) l
theorem c7f:∀l,a5S Tryz.prog tab a4D NN (mkT l)|[]=>λ_ _ e=>nomatch e|e::l=>λf g h=>by change(Trie.put (some e.g) (e.f+1) (mkT l) e.f).get f=_ at h;rw[Trie.get_put _ _ _ _ (xG _)]at h;split at h;rename_i q;subst q;cases h;exact e.h;exact c7f l f g h
noncomputable def a4N:a0g:=mkT [F2 5 sh5,F1 10 b7N,F1 12 N1,F1 14 c2W,F1 19 b8h,F2 20 c3U,F0 21 c4S,F2 22 c4O,F1 27 c2I,F2 29 c3K,F1 30 c2P,F2 32 c2u,F1 34 b9a,F2 36 b1g,F2 38 c3A,F1 39 c2M,F1 40 c0g,F1 41 c4Z,F2 42 b4u,F1 43 c2J,F1 44 c2Z,F1 46 c4K,F1 57 c2Y,F1 58 c4M,F1 59 c2B,F1 60 c3c,F1 61 c4T,F2 62 c4H,F1 64 c3r,F4 65 c2A,F2 69 c2R,F2 71 c2T,F3 72 c4n,F3 73 c3j,F4 74 c4h,F5 75 b8b,F2 76 c4b,F1 77 c3B,F1 79 b5i,F2 80 c7U,F2 81 c4w,F1 84 c2z,F1 85 c2V,F1 86 c3k,F1 87 c2K,F1 88 c2L,F1 91 c4G,F1 92 c2x,F2 93 c9k,F1 94 e4y,F1 97 c2X,F2 104 b7a,F2 105 b6H,F2 106 b7b,F1 107 b7E,F1 110 b7r,F2 111 b7p,F1 112 b7t,F2 113 b7H,F2 117 b7z,F1 118 b7G,F1 124 b7k,F0 127 e2F,F2 130 e2x,F2 133 b7l,F2 134 b7x,F2 135 b7u,F1 136 d9A,F1 137 e1m,F1 138 b7i,F1 139 b7c,F1 140 b7A,F1 141 b7v,F1 142 b6R,F3 143 b7o,F2 144 b7w,F2 145 b7n,F3 146 b7q,F1 147 b6X,F2 148 b6Y,F1 149 b7D,F1 162 e3c,F0 172 e1U,F0 173 e1u,F3 174 d9k,F0 175 e0P,F0 176 e0Q,F0 177 e2z,F3 181 b6V,F1 182 b7d,F3 183 b6Q,F1 184 b6M,F3 185 b7j,F2 186 b1G,F1 187 b6J,F1 188 d9Z,F3 207 b6I,FX 35 (λargs=>M.lift (b7m args)),FX 56 (λargs=>M.lift (b1U args)),FX 96 (a5I),FX 109 (λargs=>M.lift (b3i args)),FX 122 (b3A a8S),FX 125 (λargs=>M.lift (a8A args)),FX 163 (λargs=>M.lift (b0J args))]
theorem b0f:a5S Tryz.prog tab a4D NN a4N:=c7f _
end Go.Proofs.YtmomonnlmbljoaaGreatDoor
end
