import Derived.Test.YtmomonnlmbljoaaGreatDoorGae
import Derived.Test.YtmomonnlmbljoaaGreatDoorGaj
import Derived.Test.YtmomonnlmbljoaaGreatDoorGak
import Derived.Test.YtmomonnlmbljoaaGreatDoorGal
import Derived.Test.YtmomonnlmbljoaaGreatDoorGam
import Derived.Test.YtmomonnlmbljoaaGreatDoorGan
import Derived.Test.YtmomonnlmbljoaaGreatDoorGao
import Derived.Test.YtmomonnlmbljoaaGreatDoorGap
import Derived.Test.YtmomonnlmbljoaaGreatDoorGaq
import Derived.Test.YtmomonnlmbljoaaGreatDoorGar
import Derived.Test.YtmomonnlmbljoaaGreatDoorGas
import Derived.Test.YtmomonnlmbljoaaGreatDoorGat
import Derived.Test.YtmomonnlmbljoaaGreatDoorGau
import Derived.Test.YtmomonnlmbljoaaGreatDoorGav
import Derived.Test.YtmomonnlmbljoaaGreatDoorGaw
import Derived.Test.YtmomonnlmbljoaaGreatDoorGax
set_option maxRecDepth 1000000
set_option maxHeartbeats 4000000
set_option linter.unusedVariables false
set_option linter.unusedSimpArgs false
namespace Go.Proofs.YtmomonnlmbljoaaGreatDoor
open Go.V Go.RowKit Go.Shelf Go.Proofs
variable {mL:Int}
noncomputable abbrev NN:Nat:=2000000
structure FE where
 f:Nat
 g:I5→List Value→M CR
 h:Fit Tryz.prog tab a4Z NN f g
noncomputable abbrev F0 (f:Nat)(sh:Cb->Nat->I5->M CR){fn:Func}{c:Code}{pl:Pl}(h:∀cb N call,a2z Tryz.prog tab cb false N call fn c pl []=sh cb N call:=by exactλ_ _ _=>rfl)(he:a4Z f=none:=by rfl)(hf:tab.funcs.get f=some fn:=by kernel_rfl)(hb:fn.body=some c:=by rfl):FE:=⟨f,_,e6h he hf hb h⟩
noncomputable abbrev F1 (f:Nat)(sh:Cb->Nat->I5->Value->M CR){fn:Func}{c:Code}{pl:Pl}(h:∀cb N call a,a2z Tryz.prog tab cb false N call fn c pl [a]=sh cb N call a:=by exactλ_ _ _ _=>rfl)(he:a4Z f=none:=by rfl)(hf:tab.funcs.get f=some fn:=by kernel_rfl)(hb:fn.body=some c:=by rfl):FE:=⟨f,_,e5h he hf hb h⟩
noncomputable abbrev F2 (f:Nat)(sh:Cb->Nat->I5->Value->Value->M CR){fn:Func}{c:Code}{pl:Pl}(h:∀cb N call a b,a2z Tryz.prog tab cb false N call fn c pl [a,b]=sh cb N call a b:=by exactλ_ _ _ _ _=>rfl)(he:a4Z f=none:=by rfl)(hf:tab.funcs.get f=some fn:=by kernel_rfl)(hb:fn.body=some c:=by rfl):FE:=⟨f,_,e4O he hf hb h⟩
noncomputable abbrev F3 (f:Nat)(sh:Cb->Nat->I5->Value->Value->Value->M CR){fn:Func}{c:Code}{pl:Pl}(h:∀cb N call a b d,a2z Tryz.prog tab cb false N call fn c pl [a,b,d]=sh cb N call a b d:=by exactλ_ _ _ _ _ _=>rfl)(he:a4Z f=none:=by rfl)(hf:tab.funcs.get f=some fn:=by kernel_rfl)(hb:fn.body=some c:=by rfl):FE:=⟨f,_,e5W he hf hb h⟩
noncomputable abbrev F4 (f:Nat)(sh:Cb->Nat->I5->Value->Value->Value->Value->M CR){fn:Func}{c:Code}{pl:Pl}(h:∀cb N call a b d e,a2z Tryz.prog tab cb false N call fn c pl [a,b,d,e]=sh cb N call a b d e:=by exactλ_ _ _ _ _ _ _=>rfl)(he:a4Z f=none:=by rfl)(hf:tab.funcs.get f=some fn:=by kernel_rfl)(hb:fn.body=some c:=by rfl):FE:=⟨f,_,e6m he hf hb h⟩
noncomputable abbrev F5 (f:Nat)(sh:Cb->Nat->I5->Value->Value->Value->Value->Value->M CR){fn:Func}{c:Code}{pl:Pl}(h:∀cb N call a b d e g,a2z Tryz.prog tab cb false N call fn c pl [a,b,d,e,g]=sh cb N call a b d e g:=by exactλ_ _ _ _ _ _ _ _=>rfl)(he:a4Z f=none:=by rfl)(hf:tab.funcs.get f=some fn:=by kernel_rfl)(hb:fn.body=some c:=by rfl):FE:=⟨f,_,e4d he hf hb h⟩
noncomputable abbrev F6 (f:Nat)(sh:Cb->Nat->I5->Value->Value->Value->Value->Value->Value->M CR){fn:Func}{c:Code}{pl:Pl}(h:∀cb N call a b d e g i,a2z Tryz.prog tab cb false N call fn c pl [a,b,d,e,g,i]=sh cb N call a b d e g i:=by exactλ_ _ _ _ _ _ _ _ _=>rfl)(he:a4Z f=none:=by rfl)(hf:tab.funcs.get f=some fn:=by kernel_rfl)(hb:fn.body=some c:=by rfl):FE:=⟨f,_,e5x he hf hb h⟩
noncomputable abbrev FX (f:Nat)(g:List Value->M Value)(he:a4Z f=some g:=by rfl):FE:=⟨f,_,d4c he⟩
noncomputable def mkT (l:List FE):a1r:=List.rec (motive:=λ_=>a1r) .leaf (λe _ t=>Trie.put (some e.g) (e.f+1) t e.f) l
theorem d0n:∀l,a8h Tryz.prog tab a4Z NN (mkT l)|[]=>λ_ _ e=>nomatch e|e::l=>λf g h=>by change(Trie.put (some e.g) (e.f+1) (mkT l) e.f).get f=_ at h;rw[Trie.get_put _ _ _ _ (wu _)]at h;split at h;rename_i q;subst q;cases h;exact e.h;exact d0n l f g h
noncomputable def a5N:a1r:=mkT [F2 82 c7Y,F1 164 e3x,F2 210 c0x,F3 208 c0T,F2 33 c7a,F1 115 c0S,F1 194 b9H,F1 152 b9C,F1 98 f0b,F1 54 c7S,F1 50 c8c,F2 189 c0C,F2 190 b9N,F4 191 b9W,F3 192 c0s,F3 153 b9V,F3 209 c0J,F5 193 c0f,F4 155 b9O,F5 158 c0k,F4 159 b9T,F3 160 b9s,F4 154 c0D,F4 156 b9r,F5 157 c0G,F5 195 c0Q,F6 196 c0K,F1 211 c0v,F4 197 b9D,F4 198 b9x,F3 199 c0H,F4 161 b9Z,F3 116 c0t,F2 31 c6N,F2 78 c8a,F2 151 c0P,F2 114 c0j,F3 150 b9P,F2 8 sh8,F1 119 c0N,F1 45 c7W,F1 128 e6O,F2 178 e4M,F1 26 c2i,F1 28 c2d,F0 66 c1d,F3 67 c3l,F3 68 c1J,F2 70 b5s,F2 83 b3e,F1 108 b2F,F1 24 c1T,F1 63 c1H,F0 21 c7P,F2 22 c6M,F1 27 c7T,F2 29 c5T,F1 30 c6U,F2 32 c7d,F2 36 e7B,F2 38 e7Y,F1 39 e7L,F1 40 c6f,F1 44 e8b,F1 46 c5K,F2 62 c8h,F1 64 c7b,F4 65 c6T,F2 69 c2X,F2 71 c6y,F3 72 c7N,F3 73 c6E,F4 74 c7i,F5 75 c1o,F2 76 c6z,F1 77 c6A,F1 79 b1E,F2 80 d3e,F2 81 c7A,F1 85 e9m,F1 91 e9d,F1 92 f0t,F1 94 e8l,F1 97 c7K,F2 104 b9B,F2 105 c0F,F2 106 b1B,F1 107 c0i,F1 110 c0X,F2 111 b9w,F1 112 c0W,F2 113 c0O,F2 117 c0u,F1 118 c0V,F1 124 e6d,F0 127 e4R,F2 130 e3F,F2 133 b9F,F2 134 b9K,F2 135 c0q,F1 136 e6z,F1 137 e4Q,F1 138 c0E,F1 139 c0z,F1 140 b9L,F1 141 b9A,F1 142 c0n,F3 143 c0U,F2 144 b9Y,F2 145 b9z,F3 146 c0I,F1 147 b9E,F2 148 c0R,F1 149 c0m,F1 162 e3G,F0 172 e3T,F0 173 e4t,F3 174 e3q,F0 175 e4U,F0 176 e4P,F0 177 e3Z,F3 181 b9v,F1 182 b9J,F3 183 c0M,F1 184 b9q,F3 185 b9G,F2 186 b4z,F1 187 c0B,F1 188 e4l,F3 207 c0o,FX 35 (λargs=>M.lift (b9S args)),FX 56 (λargs=>M.lift (b4p args)),FX 96 (b4f),FX 109 (λargs=>M.lift (b6s args)),FX 122 (b6F b1o),FX 125 (λargs=>M.lift (b0s args)),FX 163 (λargs=>M.lift (b2R args))]
theorem b0R:a8h Tryz.prog tab a4Z NN a5N:=d0n _
end Go.Proofs.YtmomonnlmbljoaaGreatDoor
