import Derived.Test.YtmomonnlmbljoaaGreatDoorBag
import Derived.Test.YtmomonnlmbljoaaGreatDoorBam
import Derived.Test.YtmomonnlmbljoaaGreatDoorBan
import Derived.Test.YtmomonnlmbljoaaGreatDoorBao
import Derived.Test.YtmomonnlmbljoaaGreatDoorBap
import Derived.Test.YtmomonnlmbljoaaGreatDoorBaq
import Derived.Test.YtmomonnlmbljoaaGreatDoorBar
import Derived.Test.YtmomonnlmbljoaaGreatDoorBas
import Derived.Test.YtmomonnlmbljoaaGreatDoorBat
set_option maxRecDepth 1000000
set_option maxHeartbeats 4000000
set_option linter.unusedVariables false
set_option linter.unusedSimpArgs false
section
namespace Go.Proofs.YtmomonnlmbljoaaGreatDoor
open Go.V Go.RowKit Go.Shelf Go.Proofs
variable {mL:Int}
noncomputable abbrev NN:Nat:=1000000
structure FE where
 f:Nat
 g:J7→List Value→M CR
 h:Fit Tryz.prog tab a6M NN f g
noncomputable abbrev F0 (f:Nat)(sh:Cb->Nat->J7->M CR){fn:Func}{c:Code}{pl:Pl}(h:∀cb N call,a3j Tryz.prog tab cb false N call fn c pl []=sh cb N call:=by exactλ_ _ _=>rfl)(he:a6M f=none:=by rfl)(hf:tab.funcs.get f=some fn:=by kernel_rfl)(hb:fn.body=some c:=by rfl):FE:=⟨f,_,e4q he hf hb h⟩
noncomputable abbrev F1 (f:Nat)(sh:Cb->Nat->J7->Value->M CR){fn:Func}{c:Code}{pl:Pl}(h:∀cb N call a,a3j Tryz.prog tab cb false N call fn c pl [a]=sh cb N call a:=by exactλ_ _ _ _=>rfl)(he:a6M f=none:=by rfl)(hf:tab.funcs.get f=some fn:=by kernel_rfl)(hb:fn.body=some c:=by rfl):FE:=⟨f,_,e6e he hf hb h⟩
noncomputable abbrev F2 (f:Nat)(sh:Cb->Nat->J7->Value->Value->M CR){fn:Func}{c:Code}{pl:Pl}(h:∀cb N call a b,a3j Tryz.prog tab cb false N call fn c pl [a,b]=sh cb N call a b:=by exactλ_ _ _ _ _=>rfl)(he:a6M f=none:=by rfl)(hf:tab.funcs.get f=some fn:=by kernel_rfl)(hb:fn.body=some c:=by rfl):FE:=⟨f,_,e7k he hf hb h⟩
noncomputable abbrev F3 (f:Nat)(sh:Cb->Nat->J7->Value->Value->Value->M CR){fn:Func}{c:Code}{pl:Pl}(h:∀cb N call a b d,a3j Tryz.prog tab cb false N call fn c pl [a,b,d]=sh cb N call a b d:=by exactλ_ _ _ _ _ _=>rfl)(he:a6M f=none:=by rfl)(hf:tab.funcs.get f=some fn:=by kernel_rfl)(hb:fn.body=some c:=by rfl):FE:=⟨f,_,e3c he hf hb h⟩
noncomputable abbrev F4 (f:Nat)(sh:Cb->Nat->J7->Value->Value->Value->Value->M CR){fn:Func}{c:Code}{pl:Pl}(h:∀cb N call a b d e,a3j Tryz.prog tab cb false N call fn c pl [a,b,d,e]=sh cb N call a b d e:=by exactλ_ _ _ _ _ _ _=>rfl)(he:a6M f=none:=by rfl)(hf:tab.funcs.get f=some fn:=by kernel_rfl)(hb:fn.body=some c:=by rfl):FE:=⟨f,_,e3R he hf hb h⟩
noncomputable abbrev F5 (f:Nat)(sh:Cb->Nat->J7->Value->Value->Value->Value->Value->M CR){fn:Func}{c:Code}{pl:Pl}(h:∀cb N call a b d e g,a3j Tryz.prog tab cb false N call fn c pl [a,b,d,e,g]=sh cb N call a b d e g:=by exactλ_ _ _ _ _ _ _ _=>rfl)(he:a6M f=none:=by rfl)(hf:tab.funcs.get f=some fn:=by kernel_rfl)(hb:fn.body=some c:=by rfl):FE:=⟨f,_,e4Z he hf hb h⟩
noncomputable abbrev FX (f:Nat)(g:List Value->M Value)(he:a6M f=some g:=by rfl):FE:=⟨f,_,d3W he⟩
noncomputable def mkT (l:List FE):a2t:=List.rec (motive:=λ_=>a2t) .leaf (λe _ t=>Trie.put (some e.g) (e.f+1) t e.f) l
theorem c9P:∀l,a7T Tryz.prog tab a6M NN (mkT l)|[]=>λ_ _ e=>nomatch e|e::l=>λf g h=>by change(Trie.put (some e.g) (e.f+1) (mkT l) e.f).get f=_ at h;rw[Trie.get_put _ _ _ _ (wE _)]at h;split at h;rename_i q;subst q;cases h;exact e.h;exact c9P l f g h
noncomputable def a7f:a2t:=mkT [F2 5 sh5,F3 6 sh6,F1 17 c7y,F1 23 c5R,F1 24 c0k,F1 63 c2C,F1 10 c2O,F1 12 Z7,F1 14 c6n,F1 19 c0J,F2 20 c6X,F0 21 c6P,F2 22 c6W,F1 27 c7f,F2 29 c5B,F1 30 c7t,F2 32 c6M,F1 34 c1p,F2 36 b3J,F2 38 c7s,F1 39 c5Y,F1 40 c2t,F1 41 c5G,F2 42 b7E,F1 43 c7G,F1 44 c5o,F1 46 c6v,F1 57 c7U,F1 58 c6b,F1 59 c7D,F1 60 c6y,F1 61 c6U,F2 62 c7P,F1 64 c7K,F4 65 c6D,F2 69 c5P,F2 71 c6z,F3 72 c6Z,F3 73 c6j,F4 74 c5q,F5 75 c1E,F2 76 c5j,F1 77 c7I,F1 79 b7D,F2 80 d1I,F2 81 c6S,F1 84 c6x,F1 85 c6K,F1 86 c6s,F1 87 c7A,F1 88 c5Z,F1 91 c7R,F1 92 c6H,F2 93 d1P,F1 94 e8n,F1 97 c5s,F2 104 b9U,F2 105 b9r,F2 106 b9S,F1 107 b9l,F1 110 b9O,F2 111 b9Q,F1 112 b9B,F2 113 b9m,F2 117 b9L,F1 118 b9j,F1 124 b9y,F0 127 e6K,F2 130 e5L,F2 133 b9t,F2 134 b9Y,F2 135 c0d,F1 136 e6j,F1 137 e3I,F1 138 b9A,F1 139 b9w,F1 140 b9o,F1 141 b9Z,F1 142 b9R,F3 143 b9V,F2 144 b9H,F2 145 b9h,F3 146 b9C,F1 147 c0c,F2 148 c0g,F1 149 b9u,F1 162 e3K,F0 172 e6I,F0 173 e5t,F3 174 e6J,F0 175 e5Y,F0 176 e6B,F0 177 e7b,F3 181 b9T,F1 182 b9q,F3 183 b9D,F1 184 c0f,F3 185 b9N,F2 186 b4c,F1 187 b9n,F1 188 e6m,F3 207 b9k,FX 35 (λargs=>M.lift (b9p args)),FX 56 (λargs=>M.lift (a9Y args)),FX 96 (a7X),FX 109 (λargs=>M.lift (b6S args)),FX 122 (b6H b1t),FX 125 (λargs=>M.lift (b0Q args)),FX 163 (λargs=>M.lift (b3d args))]
theorem b1Q:a7T Tryz.prog tab a6M NN a7f:=c9P _
end Go.Proofs.YtmomonnlmbljoaaGreatDoor
end
