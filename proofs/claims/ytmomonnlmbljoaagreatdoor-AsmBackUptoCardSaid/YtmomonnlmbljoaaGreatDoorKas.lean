import Derived.Test.YtmomonnlmbljoaaGreatDoorKae
import Derived.Test.YtmomonnlmbljoaaGreatDoorKai
import Derived.Test.YtmomonnlmbljoaaGreatDoorKaj
import Derived.Test.YtmomonnlmbljoaaGreatDoorKak
import Derived.Test.YtmomonnlmbljoaaGreatDoorKal
import Derived.Test.YtmomonnlmbljoaaGreatDoorKam
import Derived.Test.YtmomonnlmbljoaaGreatDoorKan
import Derived.Test.YtmomonnlmbljoaaGreatDoorKao
import Derived.Test.YtmomonnlmbljoaaGreatDoorKap
import Derived.Test.YtmomonnlmbljoaaGreatDoorKaq
import Derived.Test.YtmomonnlmbljoaaGreatDoorKar
set_option maxRecDepth 1000000
set_option maxHeartbeats 4000000
set_option linter.unusedVariables false
set_option linter.unusedSimpArgs false
namespace Go.Proofs.YtmomonnlmbljoaaGreatDoor
open Go.V Go.RowKit Go.Shelf Go.Proofs
variable {mL:Int}
noncomputable abbrev NN:Nat:=2000000
structure FE where
 f:Nat
 g:J4→List Value→M CR
 h:Fit Tryz.prog tab a6Y NN f g
noncomputable abbrev F0 (f:Nat)(sh:Cb->Nat->J4->M CR){fn:Func}{c:Code}{pl:Pl}(h:∀cb N call,a3v Tryz.prog tab cb false N call fn c pl []=sh cb N call:=by exactλ_ _ _=>rfl)(he:a6Y f=none:=by rfl)(hf:tab.funcs.get f=some fn:=by kernel_rfl)(hb:fn.body=some c:=by rfl):FE:=⟨f,_,e3N he hf hb h⟩
noncomputable abbrev F1 (f:Nat)(sh:Cb->Nat->J4->Value->M CR){fn:Func}{c:Code}{pl:Pl}(h:∀cb N call a,a3v Tryz.prog tab cb false N call fn c pl [a]=sh cb N call a:=by exactλ_ _ _ _=>rfl)(he:a6Y f=none:=by rfl)(hf:tab.funcs.get f=some fn:=by kernel_rfl)(hb:fn.body=some c:=by rfl):FE:=⟨f,_,e6z he hf hb h⟩
noncomputable abbrev F2 (f:Nat)(sh:Cb->Nat->J4->Value->Value->M CR){fn:Func}{c:Code}{pl:Pl}(h:∀cb N call a b,a3v Tryz.prog tab cb false N call fn c pl [a,b]=sh cb N call a b:=by exactλ_ _ _ _ _=>rfl)(he:a6Y f=none:=by rfl)(hf:tab.funcs.get f=some fn:=by kernel_rfl)(hb:fn.body=some c:=by rfl):FE:=⟨f,_,e4x he hf hb h⟩
noncomputable abbrev F3 (f:Nat)(sh:Cb->Nat->J4->Value->Value->Value->M CR){fn:Func}{c:Code}{pl:Pl}(h:∀cb N call a b d,a3v Tryz.prog tab cb false N call fn c pl [a,b,d]=sh cb N call a b d:=by exactλ_ _ _ _ _ _=>rfl)(he:a6Y f=none:=by rfl)(hf:tab.funcs.get f=some fn:=by kernel_rfl)(hb:fn.body=some c:=by rfl):FE:=⟨f,_,e5B he hf hb h⟩
noncomputable abbrev F4 (f:Nat)(sh:Cb->Nat->J4->Value->Value->Value->Value->M CR){fn:Func}{c:Code}{pl:Pl}(h:∀cb N call a b d e,a3v Tryz.prog tab cb false N call fn c pl [a,b,d,e]=sh cb N call a b d e:=by exactλ_ _ _ _ _ _ _=>rfl)(he:a6Y f=none:=by rfl)(hf:tab.funcs.get f=some fn:=by kernel_rfl)(hb:fn.body=some c:=by rfl):FE:=⟨f,_,e7a he hf hb h⟩
noncomputable abbrev F5 (f:Nat)(sh:Cb->Nat->J4->Value->Value->Value->Value->Value->M CR){fn:Func}{c:Code}{pl:Pl}(h:∀cb N call a b d e g,a3v Tryz.prog tab cb false N call fn c pl [a,b,d,e,g]=sh cb N call a b d e g:=by exactλ_ _ _ _ _ _ _ _=>rfl)(he:a6Y f=none:=by rfl)(hf:tab.funcs.get f=some fn:=by kernel_rfl)(hb:fn.body=some c:=by rfl):FE:=⟨f,_,e3O he hf hb h⟩
noncomputable abbrev FX (f:Nat)(g:List Value->M Value)(he:a6Y f=some g:=by rfl):FE:=⟨f,_,d4G he⟩
noncomputable def mkT (l:List FE):a2x:=List.rec (motive:=λ_=>a2x) .leaf (λe _ t=>Trie.put (some e.g) (e.f+1) t e.f) l
theorem c8P:∀l,a7S Tryz.prog tab a6Y NN (mkT l)|[]=>λ_ _ e=>nomatch e|e::l=>λf g h=>by change(Trie.put (some e.g) (e.f+1) (mkT l) e.f).get f=_ at h;rw[Trie.get_put _ _ _ _ (wG _)]at h;split at h;rename_i q;subst q;cases h;exact e.h;exact c8P l f g h
noncomputable def a7m:a2x:=mkT [F2 9 sh9,F1 26 c2Z,F1 28 c3v,F0 66 c1k,F3 67 c1M,F3 68 c2u,F2 70 c3C,F2 83 b8u,F1 108 b6q,F1 17 c7j,F1 23 c5F,F1 24 c1O,F1 63 c2z,F1 10 c3c,F1 12 Z7,F1 14 c7s,F1 19 c2N,F2 20 c7Z,F0 21 c6g,F2 22 c7i,F1 27 c6U,F2 29 c6O,F1 30 c7T,F2 32 c7t,F1 34 c1Z,F2 36 b3G,F2 38 c6u,F1 39 c5J,F1 40 c3q,F1 41 c6P,F2 42 b7V,F1 43 c7b,F1 44 c8g,F1 46 c7o,F1 57 c7M,F1 58 c6C,F1 59 c6K,F1 60 c8f,F1 61 c7q,F2 62 c6t,F1 64 c5O,F4 65 c5W,F2 69 c0V,F2 71 c6v,F3 72 c7p,F3 73 c7c,F4 74 c6f,F5 75 c3e,F2 76 c7W,F1 77 c5E,F1 79 b2I,F2 80 d1H,F2 81 c6o,F1 84 c5Y,F1 85 c7m,F1 86 c6y,F1 87 c5M,F1 88 c7I,F1 91 c7N,F1 92 c6q,F2 93 d3a,F1 94 e8Z,F1 97 c7D,F2 104 c0t,F2 105 c0q,F2 106 b2A,F1 107 c0x,F1 110 c0j,F2 111 c0N,F1 112 c0k,F2 113 c0I,F2 117 c0O,F1 118 c0F,F1 124 c0w,F0 127 e6K,F2 130 e5I,F2 133 c0h,F2 134 c0E,F2 135 b9O,F1 136 e7z,F1 137 e7Q,F1 138 c0u,F1 139 c0l,F1 140 c0r,F1 141 b9Q,F1 142 c0d,F3 143 c0s,F2 144 b9N,F2 145 c0B,F3 146 c0v,F1 147 b9P,F2 148 b9U,F1 149 c0P,F1 162 e6w,F0 172 e4m,F0 173 e3X,F3 174 e6n,F0 175 e7n,F0 176 e5s,F0 177 e7p,F3 181 c0A,F1 182 c0i,F3 183 c0p,F1 184 c0R,F3 185 b9S,F2 186 b4w,F1 187 c0z,F1 188 e6k,F3 207 c0L,FX 35 (λargs=>M.lift (c0K args)),FX 56 (λargs=>M.lift (b0i args)),FX 96 (a8o),FX 109 (λargs=>M.lift (b7o args)),FX 122 (b6U b1J),FX 125 (λargs=>M.lift (b1a args)),FX 163 (λargs=>M.lift (b3v args))]
theorem b2H:a7S Tryz.prog tab a6Y NN a7m:=c8P _
end Go.Proofs.YtmomonnlmbljoaaGreatDoor
