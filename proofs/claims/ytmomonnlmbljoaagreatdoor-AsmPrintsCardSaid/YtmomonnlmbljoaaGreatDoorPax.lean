import Derived.Lib.AppendIntMem
import Derived.Laws.StructEq
import Derived.Test.YtmomonnlmbljoaaGreatDoorPap
import Derived.Test.YtmomonnlmbljoaaGreatDoorPar
import Derived.Test.YtmomonnlmbljoaaGreatDoorPas
import Derived.Test.YtmomonnlmbljoaaGreatDoorPat
import Derived.Test.YtmomonnlmbljoaaGreatDoorPau
import Derived.Test.YtmomonnlmbljoaaGreatDoorPav
import Derived.Test.YtmomonnlmbljoaaGreatDoorPaw
section
namespace Go.Proofs.YtmomonnlmbljoaaGreatDoor
open Go.V Go.Proofs
set_option maxRecDepth 100000
noncomputable abbrev NN:Nat:=100000
variable {mL:Int}
noncomputable def g3:o8→List Value→M CR:=ar2 (sh3 X0 NN)
theorem e1L:Fit Tryz.prog R4 a0E NN 3 g3:=a8I (pn:=false) rfl (by kernel_rfl) rfl d2v
noncomputable def g4:o8→List Value→M CR:=ar1 (sh4 X0 NN)
theorem e2m:Fit Tryz.prog R4 a0E NN 4 g4:=a1S (pn:=false) rfl (by kernel_rfl) rfl d0j
noncomputable def g10:o8→List Value→M CR:=ar1 (a9b X0 NN)
theorem d8x:Fit Tryz.prog R4 a0E NN 10 g10:=a1S (pn:=false) rfl (by kernel_rfl) rfl c9d
noncomputable def g12:o8→List Value→M CR:=ar1 (a0c X0 NN)
theorem d9V:Fit Tryz.prog R4 a0E NN 12 g12:=a1S (pn:=false) rfl (by kernel_rfl) rfl c8y
noncomputable def g13:o8→List Value→M CR:=ar1 (a0F X0 NN)
theorem d3W:Fit Tryz.prog R4 a0E NN 13 g13:=a1S (pn:=false) rfl (by kernel_rfl) rfl c8P
noncomputable def g14:o8→List Value→M CR:=ar1 (b7d X0 NN)
theorem d6k:Fit Tryz.prog R4 a0E NN 14 g14:=a1S (pn:=false) rfl (by kernel_rfl) rfl c9z
noncomputable def g15:o8→List Value→M CR:=ar1 (b7P X0 NN)
theorem d8z:Fit Tryz.prog R4 a0E NN 15 g15:=a1S (pn:=false) rfl (by kernel_rfl) rfl c7Z
noncomputable def g16:o8→List Value→M CR:=ar2 (b4z X0 NN)
theorem d8G:Fit Tryz.prog R4 a0E NN 16 g16:=a8I (pn:=false) rfl (by kernel_rfl) rfl c9o
noncomputable def g17:o8→List Value→M CR:=ar1 (b4S X0 NN)
theorem d9K:Fit Tryz.prog R4 a0E NN 17 g17:=a1S (pn:=false) rfl (by kernel_rfl) rfl c8r
noncomputable def g18:o8→List Value→M CR:=ar1 (b4W X0 NN)
theorem d3t:Fit Tryz.prog R4 a0E NN 18 g18:=a1S (pn:=false) rfl (by kernel_rfl) rfl c8R
noncomputable def g19:o8→List Value→M CR:=ar1 (b2R X0 NN)
theorem d9W:Fit Tryz.prog R4 a0E NN 19 g19:=a1S (pn:=false) rfl (by kernel_rfl) rfl c9c
noncomputable def g25:o8→List Value→M CR:=ar1 (b4y X0 NN)
theorem d7t:Fit Tryz.prog R4 a0E NN 25 g25:=a1S (pn:=false) rfl (by kernel_rfl) rfl c8f
noncomputable def g34:o8→List Value→M CR:=ar1 (b2W X0 NN)
theorem d7D:Fit Tryz.prog R4 a0E NN 34 g34:=a1S (pn:=false) rfl (by kernel_rfl) rfl c8C
noncomputable def g36:o8→List Value→M CR:=ar2 (a3V X0 NN)
theorem d9g:Fit Tryz.prog R4 a0E NN 36 g36:=a8I (pn:=false) rfl (by kernel_rfl) rfl c8j
noncomputable def g38:o8→List Value→M CR:=ar2 (a2J X0 NN)
theorem d7j:Fit Tryz.prog R4 a0E NN 38 g38:=a8I (pn:=false) rfl (by kernel_rfl) rfl c9r
noncomputable def g39:o8→List Value→M CR:=ar1 (b8p X0 NN)
theorem d6r:Fit Tryz.prog R4 a0E NN 39 g39:=a1S (pn:=false) rfl (by kernel_rfl) rfl c8A
noncomputable def g40:o8→List Value→M CR:=ar1 (b7i X0 NN)
theorem d5o:Fit Tryz.prog R4 a0E NN 40 g40:=a1S (pn:=false) rfl (by kernel_rfl) rfl c9n
noncomputable def g41:o8→List Value→M CR:=ar1 (b2a X0 NN)
theorem d9R:Fit Tryz.prog R4 a0E NN 41 g41:=a1S (pn:=false) rfl (by kernel_rfl) rfl c8U
noncomputable def g42:o8→List Value→M CR:=ar2 (b1T X0 NN)
theorem d9A:Fit Tryz.prog R4 a0E NN 42 g42:=a8I (pn:=false) rfl (by kernel_rfl) rfl c9x
noncomputable def g43:o8→List Value→M CR:=ar1 (b6D X0 NN)
theorem d6J:Fit Tryz.prog R4 a0E NN 43 g43:=a1S (pn:=false) rfl (by kernel_rfl) rfl c8w
noncomputable def g44:o8→List Value→M CR:=ar1 (a2F X0 NN)
theorem d8U:Fit Tryz.prog R4 a0E NN 44 g44:=a1S (pn:=false) rfl (by kernel_rfl) rfl c7Q
noncomputable def g45:o8→List Value→M CR:=ar1 (b4I X0 NN)
theorem d8n:Fit Tryz.prog R4 a0E NN 45 g45:=a1S (pn:=false) rfl (by kernel_rfl) rfl c8p
noncomputable def g46:o8→List Value→M CR:=ar1 (b4F X0 NN)
theorem d7Q:Fit Tryz.prog R4 a0E NN 46 g46:=a1S (pn:=false) rfl (by kernel_rfl) rfl c8T
noncomputable def g47:o8→List Value→M CR:=ar1 (b6Z X0 NN)
theorem e0O:Fit Tryz.prog R4 a0E NN 47 g47:=a1S (pn:=false) rfl (by kernel_rfl) rfl c8Z
noncomputable def g48:o8→List Value→M CR:=ar1 (b8z X0 NN)
theorem d5i:Fit Tryz.prog R4 a0E NN 48 g48:=a1S (pn:=false) rfl (by kernel_rfl) rfl c7N
noncomputable def g49:o8→List Value→M CR:=ar1 (b7Z X0 NN)
theorem e0z:Fit Tryz.prog R4 a0E NN 49 g49:=a1S (pn:=false) rfl (by kernel_rfl) rfl c8I
noncomputable def g50:o8→List Value→M CR:=ar1 (b8A X0 NN)
theorem d9F:Fit Tryz.prog R4 a0E NN 50 g50:=a1S (pn:=false) rfl (by kernel_rfl) rfl c8D
noncomputable def g51:o8→List Value→M CR:=ar2 (b7B X0 NN)
theorem d5c:Fit Tryz.prog R4 a0E NN 51 g51:=a8I (pn:=false) rfl (by kernel_rfl) rfl c8e
noncomputable def g52:o8→List Value→M CR:=ar1 (b1S X0 NN)
theorem d4U:Fit Tryz.prog R4 a0E NN 52 g52:=a1S (pn:=false) rfl (by kernel_rfl) rfl c9e
noncomputable def g53:o8→List Value→M CR:=ar2 (a9P X0 NN)
theorem d5a:Fit Tryz.prog R4 a0E NN 53 g53:=a8I (pn:=false) rfl (by kernel_rfl) rfl c8G
noncomputable def g54:o8→List Value→M CR:=ar1 (b7N X0 NN)
theorem d3U:Fit Tryz.prog R4 a0E NN 54 g54:=a1S (pn:=false) rfl (by kernel_rfl) rfl c8l
noncomputable def g55:o8→List Value→M CR:=ar1 (b9o X0 NN)
theorem d3A:Fit Tryz.prog R4 a0E NN 55 g55:=a1S (pn:=false) rfl (by kernel_rfl) rfl c8x
noncomputable def g57:o8→List Value→M CR:=ar1 (b4Q X0 NN)
theorem d7g:Fit Tryz.prog R4 a0E NN 57 g57:=a1S (pn:=false) rfl (by kernel_rfl) rfl c7P
noncomputable def g58:o8→List Value→M CR:=ar1 (b8b X0 NN)
theorem d8e:Fit Tryz.prog R4 a0E NN 58 g58:=a1S (pn:=false) rfl (by kernel_rfl) rfl c8k
noncomputable def g59:o8→List Value→M CR:=ar1 (b8H X0 NN)
theorem d4v:Fit Tryz.prog R4 a0E NN 59 g59:=a1S (pn:=false) rfl (by kernel_rfl) rfl c8F
noncomputable def g60:o8→List Value→M CR:=ar1 (b8T X0 NN)
theorem d8r:Fit Tryz.prog R4 a0E NN 60 g60:=a1S (pn:=false) rfl (by kernel_rfl) rfl c8s
noncomputable def g61:o8→List Value→M CR:=ar1 (b9g X0 NN)
theorem d6T:Fit Tryz.prog R4 a0E NN 61 g61:=a1S (pn:=false) rfl (by kernel_rfl) rfl c8B
noncomputable def g63:o8→List Value→M CR:=ar1 (d1e X0 NN)
theorem d9u:Fit Tryz.prog R4 a0E NN 63 g63:=a1S (pn:=false) rfl (by kernel_rfl) rfl c8K
noncomputable def g84:o8→List Value→M CR:=ar1 (a4Y X0 NN)
theorem e0a:Fit Tryz.prog R4 a0E NN 84 g84:=a1S (pn:=false) rfl (by kernel_rfl) rfl c9s
noncomputable def g85:o8→List Value→M CR:=ar1 (b7V X0 NN)
theorem d5z:Fit Tryz.prog R4 a0E NN 85 g85:=a1S (pn:=false) rfl (by kernel_rfl) rfl c8h
noncomputable def g86:o8→List Value→M CR:=ar1 (b8y X0 NN)
theorem d8o:Fit Tryz.prog R4 a0E NN 86 g86:=a1S (pn:=false) rfl (by kernel_rfl) rfl c9v
noncomputable def g87:o8→List Value→M CR:=ar1 (b6S X0 NN)
theorem d8m:Fit Tryz.prog R4 a0E NN 87 g87:=a1S (pn:=false) rfl (by kernel_rfl) rfl c8o
noncomputable def g88:o8→List Value→M CR:=ar1 (b7X X0 NN)
theorem d7N:Fit Tryz.prog R4 a0E NN 88 g88:=a1S (pn:=false) rfl (by kernel_rfl) rfl c9j
noncomputable def g91:o8→List Value→M CR:=ar1 (b9e X0 NN)
theorem d7A:Fit Tryz.prog R4 a0E NN 91 g91:=a1S (pn:=false) rfl (by kernel_rfl) rfl c9m
noncomputable def g92:o8→List Value→M CR:=ar1 (b8a X0 NN)
theorem d6C:Fit Tryz.prog R4 a0E NN 92 g92:=a1S (pn:=false) rfl (by kernel_rfl) rfl c8S
noncomputable def g93:o8→List Value→M CR:=ar2 (c2t X0 NN)
theorem d3i:Fit Tryz.prog R4 a0E NN 93 g93:=a8I (pn:=false) rfl (by kernel_rfl) rfl c8Y
noncomputable def g94:o8→List Value→M CR:=ar1 (d1q X0 NN)
theorem d5s:Fit Tryz.prog R4 a0E NN 94 g94:=a1S (pn:=false) rfl (by kernel_rfl) rfl c9i
noncomputable def g97:o8→List Value→M CR:=ar1 (b8u X0 NN)
theorem d3R:Fit Tryz.prog R4 a0E NN 97 g97:=a1S (pn:=false) rfl (by kernel_rfl) rfl c7T
noncomputable def g98:o8→List Value→M CR:=ar1 (d1f X0 NN)
theorem d4T:Fit Tryz.prog R4 a0E NN 98 g98:=a1S (pn:=false) rfl (by kernel_rfl) rfl c8n
noncomputable def d0M:o8→List Value→M CR:=ar1 (b3O X0 NN)
theorem d0x:Fit Tryz.prog R4 a0E NN 124 d0M:=a1S (pn:=false) rfl (by kernel_rfl) rfl c6r
noncomputable def d0s:o8→List Value→M CR:=ar0 (c7b X0 NN)
theorem d1S:Fit Tryz.prog R4 a0E NN 127 d0s:=b2n (pn:=false) rfl (by kernel_rfl) rfl c4V
noncomputable def d1D:o8→List Value→M CR:=ar1 (c6Y X0 NN)
theorem d1O:Fit Tryz.prog R4 a0E NN 128 d1D:=a1S (pn:=false) rfl (by kernel_rfl) rfl c5x
noncomputable def d0E:o8→List Value→M CR:=ar0 (c6P X0 NN)
theorem d0y:Fit Tryz.prog R4 a0E NN 172 d0E:=b2n (pn:=false) rfl (by kernel_rfl) rfl c6d
noncomputable def d2E:o8→List Value→M CR:=ar0 (c7A X0 NN)
theorem d2J:Fit Tryz.prog R4 a0E NN 173 d2E:=b2n (pn:=false) rfl (by kernel_rfl) rfl c5S
noncomputable def d2r:o8→List Value→M CR:=ar3 (c7d X0 NN)
theorem c9J:Fit Tryz.prog R4 a0E NN 174 d2r:=d9Q (pn:=false) rfl (by kernel_rfl) rfl c4S
noncomputable def d0d:o8→List Value→M CR:=ar0 (c6C X0 NN)
theorem c9O:Fit Tryz.prog R4 a0E NN 175 d0d:=b2n (pn:=false) rfl (by kernel_rfl) rfl c5T
noncomputable def d1B:o8→List Value→M CR:=ar0 (c7l X0 NN)
theorem d2H:Fit Tryz.prog R4 a0E NN 176 d1B:=b2n (pn:=false) rfl (by kernel_rfl) rfl c5P
noncomputable def c9M:o8→List Value→M CR:=ar0 (c6H X0 NN)
theorem d2k:Fit Tryz.prog R4 a0E NN 177 c9M:=b2n (pn:=false) rfl (by kernel_rfl) rfl c4Q
noncomputable def d0S:o8→List Value→M CR:=ar2 (c6v X0 NN)
theorem d1C:Fit Tryz.prog R4 a0E NN 178 d0S:=a8I (pn:=false) rfl (by kernel_rfl) rfl c5b
noncomputable def g35:o8→List Value→M CR:=arX (fun args=>M.lift (b6g args))
theorem d8F:Fit Tryz.prog R4 a0E NN 35 g35:=a9r rfl
noncomputable def g56:o8→List Value→M CR:=arX (fun args=>M.lift (a8W args))
theorem d9x:Fit Tryz.prog R4 a0E NN 56 g56:=a9r rfl
noncomputable def g96:o8→List Value→M CR:=arX (a7L)
theorem d3Y:Fit Tryz.prog R4 a0E NN 96 g96:=a9r rfl
noncomputable def d2Y:o8→List Value→M CR:=arX (fun args=>M.lift (b6p args))
theorem d2N:Fit Tryz.prog R4 a0E NN 109 d2Y:=a9r rfl
noncomputable def d0P:o8→List Value→M CR:=arX (b3C b0f)
theorem d1Q:Fit Tryz.prog R4 a0E NN 122 d0P:=a9r rfl
noncomputable def d2C:o8→List Value→M CR:=arX (fun args=>M.lift (a9q args))
theorem d0N:Fit Tryz.prog R4 a0E NN 125 d2C:=a9r rfl
noncomputable def d2P:o8→List Value→M CR:=arX (fun args=>M.lift (b4m args))
theorem d2a:Fit Tryz.prog R4 a0E NN 163 d2P:=a9r rfl
noncomputable def b0Z:a1N:=(.node none (.node none (.node (some g3) (.node none (.node (some g15) (.node none (.node (some g63) (.node (some d0s) .leaf .leaf) .leaf) .leaf) (.node (some g47) .leaf (.node none (.node (some d0d) .leaf .leaf) .leaf))) (.node none (.node (some g39) .leaf .leaf) (.node (some g55) (.node (some g87) .leaf .leaf) .leaf))) (.node none (.node (some g19) (.node (some g35) .leaf (.node none (.node (some d2P) .leaf .leaf) .leaf)) (.node (some g51) .leaf .leaf)) (.node none (.node (some g43) .leaf .leaf) (.node (some g59) (.node (some g91) .leaf .leaf) .leaf)))) (.node none (.node none (.node (some g17) (.node none .leaf (.node (some g97) .leaf .leaf)) (.node (some g49) .leaf (.node none (.node (some c9M) .leaf .leaf) .leaf))) (.node (some g25) (.node (some g41) .leaf .leaf) (.node (some g57) .leaf .leaf))) (.node (some g13) (.node none .leaf (.node (some g53) (.node (some g85) .leaf .leaf) .leaf)) (.node none (.node (some g45) .leaf (.node (some d2Y) (.node (some d2E) .leaf .leaf) .leaf)) (.node (some g61) (.node (some g93) .leaf .leaf) (.node (some d2C) .leaf .leaf)))))) (.node none (.node (some g4) (.node none (.node (some g16) (.node none (.node none (.node (some d1D) .leaf .leaf) .leaf) (.node (some g96) .leaf .leaf)) (.node (some g48) .leaf (.node none (.node (some d1B) .leaf .leaf) .leaf))) (.node none (.node (some g40) .leaf .leaf) (.node (some g56) (.node (some g88) .leaf .leaf) .leaf))) (.node (some g12) (.node none (.node (some g36) .leaf .leaf) (.node (some g52) (.node (some g84) .leaf .leaf) .leaf)) (.node none (.node (some g44) .leaf (.node none (.node (some d0E) .leaf .leaf) .leaf)) (.node (some g60) (.node (some g92) .leaf .leaf) (.node (some d0M) .leaf .leaf))))) (.node none (.node (some g10) (.node (some g18) (.node (some g34) .leaf (.node (some g98) .leaf .leaf)) (.node (some g50) .leaf (.node none (.node (some d0S) .leaf .leaf) .leaf))) (.node none (.node (some g42) .leaf .leaf) (.node (some g58) .leaf (.node (some d0P) .leaf .leaf)))) (.node (some g14) (.node none (.node (some g38) .leaf .leaf) (.node (some g54) (.node (some g86) .leaf .leaf) .leaf)) (.node none (.node (some g46) .leaf (.node none (.node (some d2r) .leaf .leaf) .leaf)) (.node none (.node (some g94) .leaf .leaf) .leaf))))))
theorem c2I:a7I Tryz.prog R4 a0E NN b0Z:=c9a (.node .none (.node .none (.node (.some e1L) (.node .none (.node (.some d8z) (.node .none (.node (.some d9u) (.node (.some d1S) .leaf .leaf) .leaf) .leaf) (.node (.some e0O) .leaf (.node .none (.node (.some c9O) .leaf .leaf) .leaf))) (.node .none (.node (.some d6r) .leaf .leaf) (.node (.some d3A) (.node (.some d8m) .leaf .leaf) .leaf))) (.node .none (.node (.some d9W) (.node (.some d8F) .leaf (.node .none (.node (.some d2a) .leaf .leaf) .leaf)) (.node (.some d5c) .leaf .leaf)) (.node .none (.node (.some d6J) .leaf .leaf) (.node (.some d4v) (.node (.some d7A) .leaf .leaf) .leaf)))) (.node .none (.node .none (.node (.some d9K) (.node .none .leaf (.node (.some d3R) .leaf .leaf)) (.node (.some e0z) .leaf (.node .none (.node (.some d2k) .leaf .leaf) .leaf))) (.node (.some d7t) (.node (.some d9R) .leaf .leaf) (.node (.some d7g) .leaf .leaf))) (.node (.some d3W) (.node .none .leaf (.node (.some d5a) (.node (.some d5z) .leaf .leaf) .leaf)) (.node .none (.node (.some d8n) .leaf (.node (.some d2N) (.node (.some d2J) .leaf .leaf) .leaf)) (.node (.some d6T) (.node (.some d3i) .leaf .leaf) (.node (.some d0N) .leaf .leaf)))))) (.node .none (.node (.some e2m) (.node .none (.node (.some d8G) (.node .none (.node .none (.node (.some d1O) .leaf .leaf) .leaf) (.node (.some d3Y) .leaf .leaf)) (.node (.some d5i) .leaf (.node .none (.node (.some d2H) .leaf .leaf) .leaf))) (.node .none (.node (.some d5o) .leaf .leaf) (.node (.some d9x) (.node (.some d7N) .leaf .leaf) .leaf))) (.node (.some d9V) (.node .none (.node (.some d9g) .leaf .leaf) (.node (.some d4U) (.node (.some e0a) .leaf .leaf) .leaf)) (.node .none (.node (.some d8U) .leaf (.node .none (.node (.some d0y) .leaf .leaf) .leaf)) (.node (.some d8r) (.node (.some d6C) .leaf .leaf) (.node (.some d0x) .leaf .leaf))))) (.node .none (.node (.some d8x) (.node (.some d3t) (.node (.some d7D) .leaf (.node (.some d4T) .leaf .leaf)) (.node (.some d9F) .leaf (.node .none (.node (.some d1C) .leaf .leaf) .leaf))) (.node .none (.node (.some d9A) .leaf .leaf) (.node (.some d8e) .leaf (.node (.some d1Q) .leaf .leaf)))) (.node (.some d6k) (.node .none (.node (.some d7j) .leaf .leaf) (.node (.some d3U) (.node (.some d8o) .leaf .leaf) .leaf)) (.node .none (.node (.some d7Q) .leaf (.node .none (.node (.some c9J) .leaf .leaf) .leaf)) (.node .none (.node (.some d5s) .leaf .leaf) .leaf))))))
end Go.Proofs.YtmomonnlmbljoaaGreatDoor
end
section

end
section
namespace Go.Proofs.YtmomonnlmbljoaaGreatDoor
open Go.Shelf Go.RowKit Go.Sort Go.Lib
set_option maxHeartbeats 6400000 in
set_option maxRecDepth 100000 in
theorem b5P (u:Nat) (hu64:u<18446744073709551616) (w:World) (htab:Lib.TabIs Tryz.prog w "internal/strconv.uint64pow10" .u64 Lib.pow10Tab) :
 Calls Tryz.prog 126 #[.int .u64 u,.int .i64 10] w fun e w'=>e=.returned (.string ⟨(Lib.decDigits u).toArray⟩)∧∃ k os,w'=grow (w.drewN k) os:=by
 have e167:∀ args w,(callFunc 167 args).run Tryz.prog w=.ok (.enter 167 args) w:=enters_of Tryz.func167 (by kernel_rfl) rfl
 have e168:∀ args w,(callFunc 168 args).run Tryz.prog w=.ok (.enter 168 args) w:=enters_of Tryz.func168 (by kernel_rfl) rfl
 have e169:∀ args w,(callFunc 169 args).run Tryz.prog w=.ok (.enter 169 args) w:=enters_of Tryz.func169 (by kernel_rfl) rfl
 by_cases hs:u<100
 · have hwr:IntKind.i64.wrap (u:Int)=(u:Int):=by rw [IntKind.wrap_i64]; omega
   go_enter Tryz.func126,Tryz.ntmps126
   go_wp2_with (go_at_call 167; refine (Any.internal_strconv_small { Tryz.lFormatInt with } u hs _).mono ?_; rintro e w' ⟨rfl,rfl⟩)
   go_ret
   exact ⟨rfl, 0, #[],by simp [World.drewN_zero]⟩
 · have hu1:1≤u:=by omega
   have hnd20:Lib.nDigits u≤20:=by have:=Lib.numDigits_eq u hu1 hu64; split at this <;> omega
   have hb3:Lib.nDigits u≤24:=by omega
   have hal:Tryz.prog.arrayLen 222=24:=by simp [Program.arrayLen,Tryz.underlying222]
   have hsl1:∀ W,(Instr.sliceAt 222 (.pointer (some ⟨w.heap.size, 0,none⟩)) none (some (.int .i64 (Lib.nDigits u:Int))) none).run Tryz.prog W=.ok (.slice (some ⟨w.heap.size, 0,none⟩) (Lib.nDigits u) 24) W:=fun W=>by
    rw [run_sliceAt_array_h W 222 ⟨w.heap.size, 0,none⟩ (by simp [Program.arrayLen,Program.elem,Tryz.underlying222]) .i64 (Lib.nDigits u:Int) (by omega) (by rw [hal]; omega)]
    go_simp
   have hH0:=Lib.holds_zero0 w 222 (Lib.nDigits u) (by omega)
   have hfmt:=Any.internal_strconv_formatBase10 { Tryz.lFormatInt with } w.heap.size 0 24 u (Array.replicate (Lib.nDigits u) 0) (w.alloc (.cells Lib.zeros24 222)) hH0 (by rw [Array.size_replicate]; exact Lib.lt_pow_nDigits u) hu64 (by rw [Array.size_replicate]; omega)
   rw [Array.size_replicate] at hfmt
   have HH0:=Lib.hid hH0
   clear hH0
   go_enter Tryz.func126,Tryz.ntmps126
   go_wp2_with (first
    | (go_at_call 168; refine (Any.internal_strconv_numDigits { Tryz.lFormatInt with } u hu1 hu64 _ (Lib.tabIs_alloc htab _)).mono ?_; rintro e w' ⟨rfl,rfl⟩))
   go_at_call 169
   refine hfmt.mono ?_
   rintro e w' ⟨rfl,k,v',dk,rfl,hF⟩
   have hcv:(convert 149 9 (.slice (some ⟨w.heap.size, 0,none⟩) (Lib.nDigits u) 24)).run Tryz.prog ((putRow (fun (b:UInt8)=>Value.int .u8 (b.toNat:Int)) (w.alloc (.cells Lib.zeros24 222)) w.heap.size 0 dk).drewN k)=.ok (.string ⟨(Lib.decDigits u).toArray⟩) ((putRow (fun (b:UInt8)=>Value.int .u8 (b.toNat:Int)) (w.alloc (.cells Lib.zeros24 222)) w.heap.size 0 dk).drewN k):=by
    have h:=run_convert_bytes_back (P:=Tryz.prog) ((putRow (fun (b:UInt8)=>Value.int .u8 (b.toNat:Int)) (w.alloc (.cells Lib.zeros24 222)) w.heap.size 0 dk).drewN k) 149 9 5 ⟨w.heap.size, 0,none⟩ 24 (Lib.decDigits u) Tryz.underlying149 Tryz.underlying5 Tryz.underlying9 (fun j hj=>by
     rw [Lib.row_is_numeral hF j hj,Lib.add_plain,World.cell?_drewN]
     exact cell?_putRow (fun (b:UInt8)=>Value.int .u8 (b.toNat:Int)) _ w.heap.size 0 _ dk HH0.out (by rw [hF.size,Array.size_replicate]) j (by rw [hF.size]; rw [Lib.decDigits_length] at hj; exact hj))
    rw [Lib.decDigits_length] at h
    exact h
   go_wp2
   go_ret
   obtain ⟨os,eo⟩:=Lib.fin_at w (.cells Lib.zeros24 222) dk k 0
   exact ⟨rfl,k,os,eo⟩
end Go.Proofs.YtmomonnlmbljoaaGreatDoor
end
section
noncomputable section
namespace Go.V
def go {α:Type} (m:M α) (s:S):Option (α×S):=m s
def a3d {α β:Type} (x:Option (α×S)) (f:α→M β):Option (β×S):=match x with
 | none=>none
 | some y=>go (f y.1) y.2
theorem J6 {α β:Type} (m:M α) (f:α→M β) (s:S):go (M.bind m f) s=a3d (go m s) f:=Eq.trans rfl rfl
theorem I4 {α β:Type} (a:α) (s:S) (f:α→M β):a3d (some (a,s)) f=go (f a) s:=Eq.trans rfl rfl
theorem U8 {α β:Type} {x y:Option (α×S)} (f:α→M β) (h:x=y):a3d x f=a3d y f:=by rw [h]
theorem a0d {α β γ:Type} (x:Option (α×S)) (f:α→M β) (g:β→M γ):a3d (a3d x f) g=a3d x fun a=>M.bind (f a) g:=by cases x <;> rfl
theorem U7 {α:Type} {b b':Bool} (x y:α) (h:b=b'):bcase b x y=bcase b' x y:=by rw [h]
theorem K3 {α:Type} (a:α) (s:S):go (M.pure a) s=some (a,s):=Eq.trans rfl rfl
theorem b0d {α:Type} (s:S):go (M.fail:M α) s=none:=Eq.trans rfl rfl
theorem J4 {β:Type} (v:Value) (kn kp:Value→M β):a3L (.ret v) kn kp=kn v:=Eq.trans rfl rfl
theorem a2W {β:Type} (b:Bool) (x y:M β) (s:S):go (bcase b x y) s=bcase b (go x s) (go y s):=by cases b <;> rfl
theorem a5N {β:Type} (b:Bool) (a a':β) (c:Nat) (h:Trie VObj) (r r' w w':List Nat) :
 bcase b (some (a,(⟨c,h,r,w⟩:S))) (some (a',⟨c,h,r',w'⟩))=some (bcase b a a',⟨c,h,bcase b r r',bcase b w w'⟩):=by cases b <;> rfl
theorem U3 {α:Type} (b:Bool) (x:α):bcase b x x=x:=by cases b <;> rfl
theorem d9 (s:ByteArray):(Value.string s).cells.toList=[.string s]:=Eq.trans rfl rfl
theorem j5 (a:Option Addr) (n e:Nat):(Value.slice a n e).cells.toList=[.slice a n e]:=Eq.trans rfl rfl
theorem l6 (f:Fn) (a b:Array Value):(Value.func f a b).cells.toList=[.func f a b]:=Eq.trans rfl rfl
theorem z8 (l:List Value):(Value.agg ⟨l⟩).cells.toList=l:=Eq.trans rfl rfl
theorem F3 (k:IntKind) (n:Int):a0I (.int k n)=true:=Eq.trans rfl rfl
theorem j6 (s:ByteArray):a0I (.string s)=true:=Eq.trans rfl rfl
theorem A8 (a:Option Addr) (n e:Nat):a0I (.slice a n e)=true:=Eq.trans rfl rfl
theorem E8 (f:Fn) (a b:Array Value):a0I (.func f a b)=true:=Eq.trans rfl rfl
theorem b5z (k:IntKind) (n:Nat):a8g (.int k (.ofNat n))=some n:=Eq.trans rfl rfl
theorem F7 (n:Nat):Nat.beq (n+1) 0=false:=Eq.trans rfl rfl
theorem F5 (n:Nat):Nat.beq 0 (n+1)=false:=Eq.trans rfl rfl
theorem F4 (n m:Nat):Nat.beq (n+1) (m+1)=Nat.beq n m:=Eq.trans rfl rfl
theorem G6 (n m:Nat):Nat.ble (n+1) (m+1)=Nat.ble n m:=Eq.trans rfl rfl
theorem a7Z (a b:Nat) (h:a≠b):Nat.beq a b=false:=a9o h
theorem D9 (a:Nat):Nat.ble a a=true:=Nat.ble_eq_true_of_le (Nat.le_refl _)
def ldS {γ:Type} (lt:Bool) (ob:Option VObj) (o g n:Nat) (k:List Value→Option γ):Option γ:=match lt with
 | true=>match ob with
   | some (.cells cs _ _)=>match Y0 g (a2I cs o) n with
     | some vs=>k vs
     | none=>none
   | _=>none
 | false=>none
def oS {α γ:Type} (x:Option α) (k:α→Option γ):Option γ:=match x with
 | some a=>k a
 | none=>none
theorem M5 {α γ:Type} (a:α) (k:α→Option γ):oS (some a) k=k a:=Eq.trans rfl rfl
theorem a0i {α γ:Type} {x y:Option α} (k:α→Option γ) (h:x=y):oS x k=oS y k:=by rw [h]
theorem K8 {γ:Type} (cs:List (Value×Nat)) (cur:Nat) (ro:Bool) (o g n:Nat) (k:List Value→Option γ):ldS true (some (.cells cs cur ro)) o g n k=oS (Y0 g (a2I cs o) n) k:=by
 unfold ldS oS
 simp only
 cases Y0 g (a2I cs o) n <;> simp only
theorem Y8 {γ:Type} {lt lt':Bool} {ob ob':Option VObj} (o g n:Nat) (k:List Value→Option γ) (h1:lt=lt') (h2:ob=ob'):ldS lt ob o g n k=ldS lt' ob' o g n k:=by rw [h1,h2]
section
variable (c:Nat) (h:Trie VObj) (r w:List Nat)
theorem a6I (b o g n:Nat):go (loadN ⟨b,o,some g⟩ n) ⟨c,h,r,w⟩=ldS (Nat.blt b c) (h.get b) o g n fun vs=>some (vs,⟨c,h,b::r,w⟩):=by
 unfold go loadN ldS
 simp only [Q9,V.M.bind,rd]
 cases Nat.blt b c with
 | false=>rfl
 | true=>cases h.get b with
   | none=>rfl
   | some ob=>cases ob with
     | cells cs cur ro=>
       simp only [a8y,M.lift]
       cases Y0 g (a2I cs o) n <;> rfl
     | _=>rfl
theorem b4B {γ δ:Type} (lt:Bool) (ob:Option VObj) (o g n:Nat) (k:List Value→Option γ) (f:Option γ→Option δ) (hf:f none=none):f (ldS lt ob o g n k)=ldS lt ob o g n fun vs=>f (k vs):=by
 unfold ldS
 cases lt with
 | false=>exact hf
 | true=>cases ob with
   | none=>exact hf
   | some ob=>cases ob with
     | cells cs cur ro=>
       simp only
       cases Y0 g (a2I cs o) n with
       | none=>exact hf
       | some vs=>rfl
     | _=>exact hf
theorem M8 (b o g:Nat):go (K7 (.pointer (some ⟨b,o,some g⟩))) ⟨c,h,r,w⟩=ldS (Nat.blt b c) (h.get b) o g 1 fun vs=>some (j4 vs 0,⟨c,h,b::r,w⟩):=by
 unfold K7
 rw [a9t,J6,a6I]
 exact b4B _ _ _ _ _ _ (fun x=>a3d x fun vs=>M.pure (j4 vs 0)) rfl
theorem Q8 (n b o g:Nat):go (a2U n (.pointer (some ⟨b,o,some g⟩))) ⟨c,h,r,w⟩=ldS (Nat.blt b c) (h.get b) o g n fun vs=>some (.agg ⟨vs⟩,⟨c,h,b::r,w⟩):=by
 unfold a2U
 rw [a9t,J6,a6I]
 exact b4B _ _ _ _ _ _ (fun x=>a3d x fun vs=>M.pure (Value.agg ⟨vs⟩)) rfl
def stS {γ:Type} (lt:Bool) (ob:Option VObj) (o g:Nat) (vs:List Value) (k:List (Value×Nat)→Nat→Bool→Option γ):Option γ:=match lt with
 | true=>match ob with
   | some (.cells cs cur ro)=>match Nat.beq g cur && !ro && a0o a0I vs && Nat.ble (o+L9 vs) (L9 cs) with
     | true=>match a5o g vs cs o with
       | some cs'=>k cs' cur ro
       | none=>none
     | false=>none
   | _=>none
 | false=>none
theorem V8 {γ:Type} (cs:List (Value×Nat)) (cur:Nat) (ro:Bool) (o g:Nat) (vs:List Value) (k:List (Value×Nat)→Nat→Bool→Option γ) (e:(Nat.beq g cur && !ro && a0o a0I vs && Nat.ble (o+L9 vs) (L9 cs))=true) :
 stS true (some (.cells cs cur ro)) o g vs k=oS (a5o g vs cs o) fun cs'=>k cs' cur ro:=by
 unfold stS oS; simp only [e]
 cases a5o g vs cs o <;> simp only
theorem Z0 {γ:Type} {lt lt':Bool} {ob ob':Option VObj} (o g:Nat) (vs:List Value) (k:List (Value×Nat)→Nat→Bool→Option γ) (h1:lt=lt') (h2:ob=ob'):stS lt ob o g vs k=stS lt' ob' o g vs k:=by rw [h1,h2]
theorem c4j (b o g:Nat) (vs:List Value):go (storeN ⟨b,o,some g⟩ vs) ⟨c,h,r,w⟩=stS (Nat.blt b c) (h.get b) o g vs fun cs' cur ro=>some ((),⟨c,upd h b (.cells cs' cur ro),b::r,b::w⟩):=by
 unfold storeN stS
 simp only [Q9]
 rw [J6]
 show a3d (rd b ⟨c,h,r,w⟩) _=_
 rw [c3v]
 cases hb:Nat.blt b c with
 | false=>rfl
 | true=>cases ho:h.get b with
   | none=>rfl
   | some ob=>cases ob with
     | cells cs cur ro=>
       simp only [I4,a8y]
       cases Nat.beq g cur && !ro && a0o a0I vs && Nat.ble (o+L9 vs) (L9 cs) with
       | false=>rfl
       | true=>
         simp only [R5]
         cases a5o g vs cs o with
         | none=>rfl
         | some cs'=>
           simp only [Q9,a2R]
           show wr b _ _=_
           rw [c3F,hb,ho]
     | _=>rfl
theorem Y5 (n b o g:Nat) (v:Value) (e2:(!(Nat.beq n 0) && Nat.beq (L9 v.cells.toList) n)=true) :
 go (a4B n (.pointer (some ⟨b,o,some g⟩)) v) ⟨c,h,r,w⟩=stS (Nat.blt b c) (h.get b) o g v.cells.toList fun cs' cur ro=>some (undef,⟨c,upd h b (.cells cs' cur ro),b::r,b::w⟩):=by
 unfold a4B
 rw [a9t,J6,e2,R5,c4j]
 generalize v.cells.toList=l
 unfold stS
 cases Nat.blt b c with
 | false=>rfl
 | true=>cases h.get b with
   | none=>rfl
   | some ob=>cases ob with
     | cells cs cur ro=>
       simp only
       cases Nat.beq g cur && !ro && a0o a0I l && Nat.ble (o+L9 l) (L9 cs) with
       | false=>rfl
       | true=>
         simp only
         cases a5o g l cs o <;> rfl
     | _=>rfl
theorem a6m (vs:List Value) (e:a0o a0I vs=true):go (a1U vs) ⟨c,h,r,w⟩=some (⟨c, 0,some 0⟩,⟨c+1,upd h c (.cells (a1R (fun v=>(v, 0)) vs) 0 false),r,c::w⟩):=by
 unfold a1U
 rw [e,R5,a2R,J6]
 show a3d (new _ _) _=_
 rw [c9k]
 rfl
theorem a0D (zs:List Value) (e:a0o a0I zs=true):go (b0P zs) ⟨c,h,r,w⟩=some (.pointer (some ⟨c, 0,some 0⟩),⟨c+1,upd h c (.cells (a1R (fun v=>(v, 0)) zs) 0 false),r,c::w⟩):=by
 unfold b0P; rw [J6,a6m c h r w zs e]; rfl
theorem d1p (v:Value) (l:List Value) (hv:v.cells.toList=l) (e:(a0o a0I l && !(D8 l))=true):go (a6Y v) ⟨c,h,r,w⟩=some (.pointer (some ⟨c, 0,some 0⟩),⟨c+1,upd h c (.cells (a1R (fun v=>(v, 0)) l) 0 false),r,c::w⟩):=by
 rw [Bool.and_eq_true] at e
 unfold a6Y; rw [hv,e.2,R5,J6,a6m c h r w l e.1]; rfl
theorem M7 (l:List Value) (e:(a0o a0I l && !(D8 l))=true):go (a6Y (.agg ⟨l⟩)) ⟨c,h,r,w⟩=some (.pointer (some ⟨c, 0,some 0⟩),⟨c+1,upd h c (.cells (a1R (fun v=>(v, 0)) l) 0 false),r,c::w⟩):=d1p c h r w _ l rfl e
theorem R8 (n len:Nat) (os:List (Nat×Nat)) (vs zs:List Value) :
 go (a1W n len os vs zs) ⟨c,h,r,w⟩=oS (a8J os vs zs) fun cs=>bcase (a0o a0I cs) (some (.slice (some ⟨c, 0,some 0⟩) len n,⟨c+1,upd h c (.cells (a1R (fun v=>(v, 0)) cs) 0 false),r,c::w⟩)) none:=by
 unfold a1W
 cases a8J os vs zs with
 | none=>rfl
 | some cs=>
   rw [Q9,J6,M5]
   cases e:a0o a0I cs with
   | true=>rw [a6m c h r w cs e]; rfl
   | false=>
     show Go.V.a3d (a1U cs ⟨c,h,r,w⟩) _=none
     unfold a1U
     rw [e]; rfl
end
theorem a7r (os:List (Nat×Nat)) (vs zs:List Value):Y1 os vs zs=M.obind (a8J os vs zs) fun cs=>M.pure (.agg ⟨cs⟩):=Eq.trans rfl rfl
theorem T9 (vs zs:List Value):a8J [] vs zs=some zs:=by cases vs <;> rfl
theorem R9 (q:Nat×Nat) (os:List (Nat×Nat)) (v:Value) (vs zs:List Value) (e:(Nat.beq (L9 v.cells.toList) q.2 && Nat.ble (q.1+q.2) (L9 zs))=true):a8J (q::os) (v::vs) zs=a8J os vs (a4t v.cells.toList zs q.1):=by
 show (match Nat.beq (L9 v.cells.toList) q.2 && Nat.ble (q.1+q.2) (L9 zs) with | true=>a8J os vs (a4t v.cells.toList zs q.1) | false=>none)=_
 rw [e]
theorem U9 (vs:List Value) (c:Value) (cs:List Value):a4t vs (c::cs) 0=a6w vs (c::cs):=Eq.trans rfl rfl
theorem c4L (vs:List Value) (c:Value) (cs:List Value) (n:Nat):a4t vs (c::cs) (n+1)=c::a4t vs cs n:=Eq.trans rfl rfl
theorem P5 (cs:List Value):a6w [] cs=cs:=Eq.trans rfl rfl
theorem O5 (v:Value) (vs:List Value) (c:Value) (cs:List Value):a6w (v::vs) (c::cs)=v::a6w vs cs:=Eq.trans rfl rfl
theorem Q7 (off b o:Nat) (g:Option Nat):X6 off (.pointer (some ⟨b,o,g⟩))=M.pure (.pointer (some ⟨b,o+off,g⟩)):=Eq.trans rfl rfl
theorem a5G (a:Option Addr) (n e:Nat):a3U (.slice a n e)=M.pure (.int .i64 (.ofNat n)):=Eq.trans rfl rfl
theorem a0l (fn:Fn) (va vb:List Value):c2Z fn va vb=M.pure (.func fn ⟨va⟩ ⟨vb⟩):=Eq.trans rfl rfl
theorem a7G (k k':IntKind) (n:Int):b0T k (.int k' n)=M.pure (.int k (a0H k n)):=Eq.trans rfl rfl
theorem a6S (n i len:Nat) (k:IntKind) (b o:Nat) (g:Option Nat) (e:i<len) (e2:n≠0):a4X n (.slice (some ⟨b,o,g⟩) len n) (.int k (.ofNat i))=M.pure (.pointer (some ⟨b,o+i * n,g⟩)):=by
 unfold a4X elemAtN
 simp only [b5z,Q9,D7,R5,H9 e,a9o e2]
 rfl
theorem c3M (x y:List UInt8) (e:L9 x+L9 y<a6r):b2t .add x y=some (.string ⟨⟨M4 x y⟩⟩):=by
 show (match Nat.blt (L9 x+L9 y) a6r with | true=>fList (M4 x y) fun l=>some (Value.string ⟨⟨l⟩⟩) | false=>none)=_
 rw [H9 e]
 simp only [a2R]
section
variable (p:Program) (T:Tab)
theorem a5S (t:TypeId) (x y:Operand) (s s':ByteArray):a4c p T .eql t x y (.string s) (.string s')=M.pure (.bool (beqBytes s.data.toList s'.data.toList)):=Eq.trans rfl rfl
theorem a8u (t:TypeId) (x y:Operand) (s s':ByteArray):a4c p T .neq t x y (.string s) (.string s')=M.pure (.bool (!(beqBytes s.data.toList s'.data.toList))):=Eq.trans rfl rfl
theorem X7 (t:TypeId) (x y:Operand) (s s':ByteArray) (e:L9 s.data.toList+L9 s'.data.toList<4294967296):a4c p T .add t x y (.string s) (.string s')=M.pure (.string ⟨⟨M4 s.data.toList s'.data.toList⟩⟩):=by
 show M.lift (b2t .add s.data.toList s'.data.toList)=_
 rw [c3M _ _ e]; rfl
end
end Go.V
namespace Go.V
theorem b5o {α:Type} (l:List α) (a b:Nat):a2I l (a+b)=a2I (a2I l a) b:=by rw [a5I,a5I,a5I,List.drop_drop]
theorem a1d {σ:Type} (body:σ→M (Xc×σ)) (n:Nat) (x:σ) (s:S):go (a2S body (n+1) x) s=a3d (go (body x) s) fun r=>O4 r.1 (a2S body n r.2) (fun id=>M.pure (.exit id,r.2)) (M.pure (.ret,r.2)) (fun v=>M.pure (.pan v,r.2)):=Eq.trans rfl rfl
theorem H6.cases {α:Type} {b:Bool} {x y:Option (α×S)} {Q:α→S→Prop} (h1:b=true→H6 x Q) (h2:b=false→H6 y Q):H6 (bcase b x y) Q:=by
 cases b with
 | true=>exact h1 rfl
 | false=>exact h2 rfl
theorem H6.bindS {α β:Type} {x:Option (α×S)} {f:α→M β} {P:α→S→Prop} {Q:β→S→Prop} (h:H6 x P) (k:∀ a s',P a s'→H6 (go (f a) s') Q):H6 (a3d x f) Q:=by
 obtain ⟨a,s',rfl,p⟩:=h
 exact k a s' p
theorem H6.done {α:Type} {a:α} {s:S} {Q:α→S→Prop} (h:Q a s):H6 (Option.some (a,s)) Q:=⟨a,s,rfl,h⟩
theorem b9D {α β:Type} (b:Bool) (x y:Option (α×S)) (f:α→M β):a3d (bcase b x y) f=bcase b (a3d x f) (a3d y f):=by cases b <;> rfl
theorem G9:(!true)=false:=rfl
theorem I5:(!false)=true:=rfl
theorem H7 (b:Bool):(b && b)=b:=Bool.and_self b
theorem I8 (b:Bool):(true && b)=b:=Bool.true_and b
theorem I9 (b:Bool):(b && true)=b:=Bool.and_true b
theorem G8 (n:Nat):0+n=n:=Nat.zero_add n
end Go.V
end
section
namespace Go.V
section
variable {P:Program}
theorem a4E {α β:Type} (x:Sem α) (f:α→Sem β):a2L P (x >>= f)=match a2L P x with
 | some a=>a2L P (f a)
 | none=>none:=by
 show a2L P (x.bind f)=_
 induction x with
 | pure a=>rfl
 | program k ih=>exact ih P
 | mark m k ih=>exact ih
 | _=>rfl
theorem b0b {α:Type} (a:α):a2L P (pure a:Sem α)=some a:=rfl
theorem b0L:a2L P program=some P:=rfl
theorem a8z {t:TypeId} {d:TypeDesc} (h:P.underlying t=some d):a2L P (underlying t)=some d:=by
 unfold underlying
 rw [a4E,b0L]
 simp only [h]
 rfl
theorem c0L {t:TypeId} {k:IntKind} (h:P.underlying t=some (.int k)) (cs:Array Value) (off:Nat) (v:Value) (hv:cs[off]?=some v):a2L P (part t cs off)=some v:=by
 unfold part isAgg
 rw [a4E,a4E,a8z h]
 simp only [b0b,hv]
 rfl
theorem c4W (d:Nat) {t:TypeId} {k' k:IntKind} (h:P.underlying t=some (.int k')) (a b:Int):a2L P (Op.equalIn (d+1) t (.int k a) (.int k b))=some (a == b):=by
 unfold Op.equalIn
 rw [a4E,a8z h]
 simp
 rfl
def a6M (P:Program):List Field→Nat→List Int→List Int→List Value→List Value→Prop
 | [],_, [], [],_,_=>True
 | f::fs,o,a::aS9,b::bs,xs,ys=>f.name ≠ "_"∧f.offset=o∧(∃ k',P.underlying f.type=some (.int k'))∧(∃ k,xs[o]?=some (.int k a)∧ys[o]?=some (.int k b))∧a6M P fs (o+1) aS9 bs xs ys
 | _,_,_,_,_,_=>False
def a7J:List Int→List Int→Bool
 | a::aS9,b::bs=>decide (a=b) && a7J aS9 bs
 | _,_=>true
theorem b9F (d:Nat) {t:TypeId} {fs:Array Field} (ht:P.underlying t=some (.struct fs)) (hp:P.stoodInHeld t=false) (xs ys:List Value) (aS9 bs:List Int) (h:a6M P fs.toList 0 aS9 bs xs ys) :
 a2L P (Op.equalIn (d+2) t (.agg ⟨xs⟩) (.agg ⟨ys⟩))=some (a7J aS9 bs):=by
 unfold Op.equalIn
 rw [a4E,a8z ht]
 simp only []
 rw [a4E,b0L]
 simp only [hp,Bool.false_eq_true,if_false]
 rw [a4E, ← Array.forIn_toList]
 generalize fs.toList=l at h ⊢
 clear ht
 revert h
 generalize 0=o
 induction l generalizing o aS9 bs with
 | nil=>
   intro h
   cases aS9 with
   | nil=>cases bs with
     | nil=>simp [List.forIn_nil,b0b,a7J]
     | cons b bs=>exact absurd h (by simp [a6M])
   | cons a aS9=>exact absurd h (by simp [a6M])
 | cons f l ih=>
   intro h
   cases aS9 with
   | nil=>exact absurd h (by simp [a6M])
   | cons a aS9=>cases bs with
     | nil=>exact absurd h (by simp [a6M])
     | cons b bs=>
       obtain ⟨h1,rfl,⟨k',h3⟩,⟨k,h4,h5⟩,h6⟩:=h
       have i1:=ih aS9 bs _ h6
       rw [List.forIn_cons,a4E,if_pos h1,a4E,c0L h3 ⟨xs⟩ f.offset _ (by simpa using h4)]
       simp only [a4E,c0L h3 ⟨ys⟩ f.offset _ (by simpa using h5),c4W d h3]
       by_cases hab:a=b
       · have e:(!a == b)=false:=by simp [hab]
         rw [if_neg (by rw [e]; decide)]
         simp only [b0b]
         rw [i1]
         show some (a7J aS9 bs)=some (decide (a=b) && a7J aS9 bs)
         rw [decide_eq_true hab,Bool.true_and]
       · have e:(!a == b)=true:=by simp [hab]
         rw [if_pos e]
         simp only [b0b]
         show some false=some (decide (a=b) && a7J aS9 bs)
         rw [decide_eq_false hab,Bool.false_and]
theorem b4Y (op:BinOp) (t:TypeId) (x y:Operand) (xs ys:Array Value) (hm:P.eqGuardType P.depth t=false):a2L P (eqGuard op t x y (.agg xs) (.agg ys))=some ():=by
 cases op <;> simp only [eqGuard,Bool.not_false,Bool.not_true,Bool.false_eq_true,if_true,if_false,b0b,a4E,b0L,hm] <;> rfl
theorem b9B {T:Tab} {op:BinOp} (hop:op=.eql∨op=.neq) {t:TypeId} {x y:Operand} {fs:Array Field} (ht:P.underlying t=some (.struct fs)) (hp:P.stoodInHeld t=false) (hm:P.eqGuardType P.depth t=false)
 {xs ys:List Value} {aS9 bs:List Int} (h:a6M P fs.toList 0 aS9 bs xs ys) (hx:a0e 8 (.agg ⟨xs⟩)=true) (hy:a0e 8 (.agg ⟨ys⟩)=true) (hT:∀ d,T.types.get t=some d→d.und=.struct fs) :
 a4c P T op t x y (.agg ⟨xs⟩) (.agg ⟨ys⟩)=M.pure (.bool (b2O op (a7J aS9 bs))):=by
 have hn:b0t T op t x y (.agg ⟨xs⟩) (.agg ⟨ys⟩)=none:=by
  unfold b0t
  cases c5Q op && (isConstO x || isConstO y) with
  | false=>rfl
  | true=>
    cases hd:T.types.get t with
    | none=>rfl
    | some d=>simp only [hT d hd]; rfl
 have e:=b9F (P:=P) 9998 ht hp xs ys aS9 bs h
 show a8x P T op t x y (.agg ⟨xs⟩) (.agg ⟨ys⟩)=_
 unfold a8x
 rw [hn]
 simp only [hx,hy,Bool.and_self,R5]
 have k:a2L P (do eqGuard op t x y (.agg ⟨xs⟩) (.agg ⟨ys⟩); binOp op t (.agg ⟨xs⟩) (.agg ⟨ys⟩))=some (.bool (b2O op (a7J aS9 bs))):=by
  rw [a4E,b4Y _ _ _ _ _ _ hm]
  rcases hop with rfl | rfl
  · simp only [binOp,Op.equal,Op.maxDepth]
    rw [a4E]
    rw [show (10000:Nat)=9998+2 from rfl,e]
    rfl
  · simp only [binOp,Op.equal,Op.maxDepth]
    rw [a4E]
    rw [show (10000:Nat)=9998+2 from rfl,e]
    rfl
 rw [k]
 rfl
end
end Go.V
end
