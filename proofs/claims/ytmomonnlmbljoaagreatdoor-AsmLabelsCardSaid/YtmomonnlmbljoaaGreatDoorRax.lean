import Derived.Laws.StructEq
import Derived.Test.YtmomonnlmbljoaaGreatDoorRao
import Derived.Test.YtmomonnlmbljoaaGreatDoorRaq
import Derived.Test.YtmomonnlmbljoaaGreatDoorRar
import Derived.Test.YtmomonnlmbljoaaGreatDoorRas
import Derived.Test.YtmomonnlmbljoaaGreatDoorRat
import Derived.Test.YtmomonnlmbljoaaGreatDoorRav
import Derived.Test.YtmomonnlmbljoaaGreatDoorRaw
section
namespace Go.Proofs.YtmomonnlmbljoaaGreatDoor
open Go.V Go.Proofs
set_option maxRecDepth 100000
noncomputable abbrev NN:Nat:=100000
variable {mL:Int}
noncomputable def g7:j4→List Value→M CR:=X9 (c5a C8 NN)
theorem f0z:I4 Tryz.prog A9 F8 NN 7 g7:=O6 (pn:=false) rfl (by kernel_rfl) rfl (fun cb N call a b=>(d9A cb N call a b).trans (b9Q cb N call a b))
noncomputable def g20:j4→List Value→M CR:=X9 (c5U C8 NN)
theorem e6K:I4 Tryz.prog A9 F8 NN 20 g20:=O6 (pn:=false) rfl (by kernel_rfl) rfl (fun cb N call a b=>(d8w cb N call a b).trans (d6C cb N call a b))
noncomputable def g21:j4→List Value→M CR:=ar0 (c2Z C8 NN)
theorem e5K:I4 Tryz.prog A9 F8 NN 21 g21:=e5u (pn:=false) rfl (by kernel_rfl) rfl (fun cb N call=>(d8T cb N call).trans (d6f cb N call))
noncomputable def g25:j4→List Value→M CR:=R5 (c3l C8 NN)
theorem e2d:I4 Tryz.prog A9 F8 NN 25 g25:=M4 (pn:=false) rfl (by kernel_rfl) rfl (fun cb N call a=>(d8I cb N call a).trans (d5Z cb N call a))
noncomputable def g27:j4→List Value→M CR:=R5 (c1s C8 NN)
theorem e4Q:I4 Tryz.prog A9 F8 NN 27 g27:=M4 (pn:=false) rfl (by kernel_rfl) rfl (fun cb N call a=>(d8Q cb N call a).trans (d5m cb N call a))
noncomputable def g29:j4→List Value→M CR:=X9 (c3L C8 NN)
theorem e2e:I4 Tryz.prog A9 F8 NN 29 g29:=O6 (pn:=false) rfl (by kernel_rfl) rfl (fun cb N call a b=>(d7T cb N call a b).trans (d4p cb N call a b))
noncomputable def g30:j4→List Value→M CR:=R5 (c4F C8 NN)
theorem e2a:I4 Tryz.prog A9 F8 NN 30 g30:=M4 (pn:=false) rfl (by kernel_rfl) rfl (fun cb N call a=>(d9i cb N call a).trans (d3C cb N call a))
noncomputable def g32:j4→List Value→M CR:=X9 (c6G C8 NN)
theorem e4x:I4 Tryz.prog A9 F8 NN 32 g32:=O6 (pn:=false) rfl (by kernel_rfl) rfl (fun cb N call a b=>(d8X cb N call a b).trans (d6p cb N call a b))
noncomputable def g39:j4→List Value→M CR:=R5 (c4v C8 NN)
theorem e4Y:I4 Tryz.prog A9 F8 NN 39 g39:=M4 (pn:=false) rfl (by kernel_rfl) rfl (fun cb N call a=>(d8q cb N call a).trans (d3S cb N call a))
noncomputable def g40:j4→List Value→M CR:=R5 (c5b C8 NN)
theorem e5a:I4 Tryz.prog A9 F8 NN 40 g40:=M4 (pn:=false) rfl (by kernel_rfl) rfl (fun cb N call a=>(d8j cb N call a).trans (d3F cb N call a))
noncomputable def g64:j4→List Value→M CR:=R5 (c7g C8 NN)
theorem e6s:I4 Tryz.prog A9 F8 NN 64 g64:=M4 (pn:=false) rfl (by kernel_rfl) rfl (fun cb N call a=>(d8b cb N call a).trans (d4n cb N call a))
noncomputable def g65:j4→List Value→M CR:=ar4 (c3a C8 NN)
theorem e2R:I4 Tryz.prog A9 F8 NN 65 g65:=d7e (pn:=false) rfl (by kernel_rfl) rfl (fun cb N call a b d e=>(d8G cb N call a b d e).trans (d6a cb N call a b d e))
noncomputable def g69:j4→List Value→M CR:=X9 (e0n C8 NN)
theorem e6j:I4 Tryz.prog A9 F8 NN 69 g69:=O6 (pn:=false) rfl (by kernel_rfl) rfl d8Z
noncomputable def g71:j4→List Value→M CR:=X9 (c0q C8 NN)
theorem e5J:I4 Tryz.prog A9 F8 NN 71 g71:=O6 (pn:=false) rfl (by kernel_rfl) rfl (fun cb N call a b=>(d8v cb N call a b).trans (d5H cb N call a b))
noncomputable def g72:j4→List Value→M CR:=ar3 (e0g C8 NN)
theorem e4H:I4 Tryz.prog A9 F8 NN 72 g72:=a1S (pn:=false) rfl (by kernel_rfl) rfl d9b
noncomputable def g73:j4→List Value→M CR:=ar3 (c6i C8 NN)
theorem e3Q:I4 Tryz.prog A9 F8 NN 73 g73:=a1S (pn:=false) rfl (by kernel_rfl) rfl (fun cb N call a b d=>(d8V cb N call a b d).trans (d3j cb N call a b d))
noncomputable def g74:j4→List Value→M CR:=ar4 (c4Y C8 NN)
theorem e3s:I4 Tryz.prog A9 F8 NN 74 g74:=d7e (pn:=false) rfl (by kernel_rfl) rfl (fun cb N call a b d e=>(d8B cb N call a b d e).trans (d2S cb N call a b d e))
noncomputable def g75:j4→List Value→M CR:=ar5 (c4U C8 NN)
theorem e6e:I4 Tryz.prog A9 F8 NN 75 g75:=e5S (pn:=false) rfl (by kernel_rfl) rfl (fun cb N call a b d e f=>(d9d cb N call a b d e f).trans (d4a cb N call a b d e f))
noncomputable def g76:j4→List Value→M CR:=X9 (c0R C8 NN)
theorem e4k:I4 Tryz.prog A9 F8 NN 76 g76:=O6 (pn:=false) rfl (by kernel_rfl) rfl (fun cb N call a b=>(d9g cb N call a b).trans (d3V cb N call a b))
noncomputable def g77:j4→List Value→M CR:=R5 (c4k C8 NN)
theorem e6H:I4 Tryz.prog A9 F8 NN 77 g77:=M4 (pn:=false) rfl (by kernel_rfl) rfl (fun cb N call a=>(d9c cb N call a).trans (d4s cb N call a))
noncomputable def g79:j4→List Value→M CR:=R5 (c5S C8 NN)
theorem e6S:I4 Tryz.prog A9 F8 NN 79 g79:=M4 (pn:=false) rfl (by kernel_rfl) rfl (fun cb N call a=>(d9p cb N call a).trans (d3Y cb N call a))
noncomputable def g80:j4→List Value→M CR:=X9 (e1k C8 NN)
theorem e4z:I4 Tryz.prog A9 F8 NN 80 g80:=O6 (pn:=false) rfl (by kernel_rfl) rfl d8o
noncomputable def g81:j4→List Value→M CR:=X9 (c7B C8 NN)
theorem e6z:I4 Tryz.prog A9 F8 NN 81 g81:=O6 (pn:=false) rfl (by kernel_rfl) rfl (fun cb N call a b=>(d8y cb N call a b).trans (d6F cb N call a b))
noncomputable def g85:j4→List Value→M CR:=R5 (c2o C8 NN)
theorem e6o:I4 Tryz.prog A9 F8 NN 85 g85:=M4 (pn:=false) rfl (by kernel_rfl) rfl (fun cb N call a=>(d7V cb N call a).trans (d4c cb N call a))
noncomputable def g91:j4→List Value→M CR:=R5 (c5D C8 NN)
theorem e6u:I4 Tryz.prog A9 F8 NN 91 g91:=M4 (pn:=false) rfl (by kernel_rfl) rfl (fun cb N call a=>(d7I cb N call a).trans (d6r cb N call a))
noncomputable def g92:j4→List Value→M CR:=R5 (c7K C8 NN)
theorem e4i:I4 Tryz.prog A9 F8 NN 92 g92:=M4 (pn:=false) rfl (by kernel_rfl) rfl (fun cb N call a=>(d7J cb N call a).trans (d2Z cb N call a))
noncomputable def g94:j4→List Value→M CR:=R5 (c5X C8 NN)
theorem e6g:I4 Tryz.prog A9 F8 NN 94 g94:=M4 (pn:=false) rfl (by kernel_rfl) rfl (fun cb N call a=>(d8f cb N call a).trans (d6e cb N call a))
noncomputable def e0X:j4→List Value→M CR:=X9 (b4O C8 NN)
theorem e1H:I4 Tryz.prog A9 F8 NN 104 e0X:=O6 (pn:=false) rfl (by kernel_rfl) rfl (fun cb N call a b=>(d3D cb N call a b).trans (c8e cb N call a b))
noncomputable def e1E:j4→List Value→M CR:=X9 (b2V C8 NN)
theorem e1G:I4 Tryz.prog A9 F8 NN 105 e1E:=O6 (pn:=false) rfl (by kernel_rfl) rfl (fun cb N call a b=>(d4A cb N call a b).trans (c9n cb N call a b))
noncomputable def e1p:j4→List Value→M CR:=X9 (d7m C8 NN)
theorem e1V:I4 Tryz.prog A9 F8 NN 106 e1p:=O6 (pn:=false) rfl (by kernel_rfl) rfl d3k
noncomputable def e1L:j4→List Value→M CR:=R5 (b1G C8 NN)
theorem d9J:I4 Tryz.prog A9 F8 NN 107 e1L:=M4 (pn:=false) rfl (by kernel_rfl) rfl (fun cb N call a=>(d6D cb N call a).trans (d0E cb N call a))
noncomputable def e0U:j4→List Value→M CR:=R5 (b3m C8 NN)
theorem e1F:I4 Tryz.prog A9 F8 NN 110 e0U:=M4 (pn:=false) rfl (by kernel_rfl) rfl (fun cb N call a=>(d3E cb N call a).trans (d1L cb N call a))
noncomputable def d9w:j4→List Value→M CR:=X9 (b6g C8 NN)
theorem e1l:I4 Tryz.prog A9 F8 NN 111 d9w:=O6 (pn:=false) rfl (by kernel_rfl) rfl (fun cb N call a b=>(d5D cb N call a b).trans (c9c cb N call a b))
noncomputable def e1j:j4→List Value→M CR:=R5 (b1Y C8 NN)
theorem e0l:I4 Tryz.prog A9 F8 NN 112 e1j:=M4 (pn:=false) rfl (by kernel_rfl) rfl (fun cb N call a=>(d5A cb N call a).trans (d2b cb N call a))
noncomputable def e1e:j4→List Value→M CR:=X9 (b6p C8 NN)
theorem d9O:I4 Tryz.prog A9 F8 NN 113 e1e:=O6 (pn:=false) rfl (by kernel_rfl) rfl (fun cb N call a b=>(d5C cb N call a b).trans (d2C cb N call a b))
noncomputable def d9H:j4→List Value→M CR:=X9 (b2k C8 NN)
theorem e0J:I4 Tryz.prog A9 F8 NN 117 d9H:=O6 (pn:=false) rfl (by kernel_rfl) rfl (fun cb N call a b=>(d6o cb N call a b).trans (d0x cb N call a b))
noncomputable def e0e:j4→List Value→M CR:=R5 (b2f C8 NN)
theorem e0m:I4 Tryz.prog A9 F8 NN 118 e0e:=M4 (pn:=false) rfl (by kernel_rfl) rfl (fun cb N call a=>(d4i cb N call a).trans (d1x cb N call a))
noncomputable def e0w:j4→List Value→M CR:=R5 (b3I C8 NN)
theorem e1M:I4 Tryz.prog A9 F8 NN 124 e0w:=M4 (pn:=false) rfl (by kernel_rfl) rfl (fun cb N call a=>(d4J cb N call a).trans (c9w cb N call a))
noncomputable def e0j:j4→List Value→M CR:=X9 (b5b C8 NN)
theorem d9B:I4 Tryz.prog A9 F8 NN 130 e0j:=O6 (pn:=false) rfl (by kernel_rfl) rfl (fun cb N call a b=>(d5b cb N call a b).trans (c9B cb N call a b))
noncomputable def e1m:j4→List Value→M CR:=X9 (b1J C8 NN)
theorem e0q:I4 Tryz.prog A9 F8 NN 133 e1m:=O6 (pn:=false) rfl (by kernel_rfl) rfl (fun cb N call a b=>(d5w cb N call a b).trans (d1h cb N call a b))
noncomputable def e0v:j4→List Value→M CR:=X9 (b2h C8 NN)
theorem e1A:I4 Tryz.prog A9 F8 NN 134 e0v:=O6 (pn:=false) rfl (by kernel_rfl) rfl (fun cb N call a b=>(d3Q cb N call a b).trans (d0i cb N call a b))
noncomputable def e1i:j4→List Value→M CR:=X9 (b2i C8 NN)
theorem d9U:I4 Tryz.prog A9 F8 NN 135 e1i:=O6 (pn:=false) rfl (by kernel_rfl) rfl (fun cb N call a b=>(d5L cb N call a b).trans (d1Z cb N call a b))
noncomputable def e0p:j4→List Value→M CR:=R5 (b6Z C8 NN)
theorem e1z:I4 Tryz.prog A9 F8 NN 136 e0p:=M4 (pn:=false) rfl (by kernel_rfl) rfl (fun cb N call a=>(d4X cb N call a).trans (c8w cb N call a))
noncomputable def e1U:j4→List Value→M CR:=R5 (b5z C8 NN)
theorem e0C:I4 Tryz.prog A9 F8 NN 137 e1U:=M4 (pn:=false) rfl (by kernel_rfl) rfl (fun cb N call a=>(d3P cb N call a).trans (d1K cb N call a))
noncomputable def d9K:j4→List Value→M CR:=R5 (b6E C8 NN)
theorem e1d:I4 Tryz.prog A9 F8 NN 138 d9K:=M4 (pn:=false) rfl (by kernel_rfl) rfl (fun cb N call a=>(d3v cb N call a).trans (c8B cb N call a))
noncomputable def e0F:j4→List Value→M CR:=R5 (b5M C8 NN)
theorem d9y:I4 Tryz.prog A9 F8 NN 139 e0F:=M4 (pn:=false) rfl (by kernel_rfl) rfl (fun cb N call a=>(d3l cb N call a).trans (c8j cb N call a))
noncomputable def e1N:j4→List Value→M CR:=R5 (b7e C8 NN)
theorem d9Z:I4 Tryz.prog A9 F8 NN 140 e1N:=M4 (pn:=false) rfl (by kernel_rfl) rfl (fun cb N call a=>(d4W cb N call a).trans (c8R cb N call a))
noncomputable def e1S:j4→List Value→M CR:=R5 (b4u C8 NN)
theorem e0y:I4 Tryz.prog A9 F8 NN 141 e1S:=M4 (pn:=false) rfl (by kernel_rfl) rfl (fun cb N call a=>(d5E cb N call a).trans (d0m cb N call a))
noncomputable def e1W:j4→List Value→M CR:=R5 (b4M C8 NN)
theorem d9L:I4 Tryz.prog A9 F8 NN 142 e1W:=M4 (pn:=false) rfl (by kernel_rfl) rfl (fun cb N call a=>(d5T cb N call a).trans (c8h cb N call a))
noncomputable def e1a:j4→List Value→M CR:=ar3 (d6H C8 NN)
theorem e1P:I4 Tryz.prog A9 F8 NN 143 e1a:=a1S (pn:=false) rfl (by kernel_rfl) rfl d3K
noncomputable def e1g:j4→List Value→M CR:=X9 (b2y C8 NN)
theorem e0Q:I4 Tryz.prog A9 F8 NN 144 e1g:=O6 (pn:=false) rfl (by kernel_rfl) rfl (fun cb N call a b=>(d4D cb N call a b).trans (d1a cb N call a b))
noncomputable def d9D:j4→List Value→M CR:=X9 (d7B C8 NN)
theorem e0z:I4 Tryz.prog A9 F8 NN 145 d9D:=O6 (pn:=false) rfl (by kernel_rfl) rfl d6d
noncomputable def e0K:j4→List Value→M CR:=ar3 (b4R C8 NN)
theorem d9R:I4 Tryz.prog A9 F8 NN 146 e0K:=a1S (pn:=false) rfl (by kernel_rfl) rfl (fun cb N call a b d=>(d4B cb N call a b d).trans (d1R cb N call a b d))
noncomputable def e1q:j4→List Value→M CR:=R5 (b7s C8 NN)
theorem e0P:I4 Tryz.prog A9 F8 NN 147 e1q:=M4 (pn:=false) rfl (by kernel_rfl) rfl (fun cb N call a=>(d5B cb N call a).trans (c8u cb N call a))
noncomputable def e0T:j4→List Value→M CR:=X9 (b3O C8 NN)
theorem e1w:I4 Tryz.prog A9 F8 NN 148 e0T:=O6 (pn:=false) rfl (by kernel_rfl) rfl (fun cb N call a b=>(d6i cb N call a b).trans (d2l cb N call a b))
noncomputable def e0b:j4→List Value→M CR:=R5 (b5O C8 NN)
theorem e1c:I4 Tryz.prog A9 F8 NN 149 e0b:=M4 (pn:=false) rfl (by kernel_rfl) rfl (fun cb N call a=>(d4r cb N call a).trans (d0a cb N call a))
noncomputable def e0G:j4→List Value→M CR:=R5 (b3f C8 NN)
theorem e0t:I4 Tryz.prog A9 F8 NN 162 e0G:=M4 (pn:=false) rfl (by kernel_rfl) rfl (fun cb N call a=>(d5v cb N call a).trans (c8l cb N call a))
noncomputable def e0H:j4→List Value→M CR:=ar3 (b5W C8 NN)
theorem e0I:I4 Tryz.prog A9 F8 NN 181 e0H:=a1S (pn:=false) rfl (by kernel_rfl) rfl (fun cb N call a b d=>(d4I cb N call a b d).trans (d1A cb N call a b d))
noncomputable def e1O:j4→List Value→M CR:=R5 (b2L C8 NN)
theorem e1y:I4 Tryz.prog A9 F8 NN 182 e1O:=M4 (pn:=false) rfl (by kernel_rfl) rfl (fun cb N call a=>(d5U cb N call a).trans (c9x cb N call a))
noncomputable def e0c:j4→List Value→M CR:=ar3 (b8g C8 NN)
theorem e0h:I4 Tryz.prog A9 F8 NN 183 e0c:=a1S (pn:=false) rfl (by kernel_rfl) rfl (fun cb N call a b d=>(d3c cb N call a b d).trans (d0N cb N call a b d))
noncomputable def e1t:j4→List Value→M CR:=R5 (b3s C8 NN)
theorem d9x:I4 Tryz.prog A9 F8 NN 184 e1t:=M4 (pn:=false) rfl (by kernel_rfl) rfl (fun cb N call a=>(d3J cb N call a).trans (d0l cb N call a))
noncomputable def d9I:j4→List Value→M CR:=ar3 (b6C C8 NN)
theorem e1Q:I4 Tryz.prog A9 F8 NN 185 d9I:=a1S (pn:=false) rfl (by kernel_rfl) rfl (fun cb N call a b d=>(d5l cb N call a b d).trans (d2J cb N call a b d))
noncomputable def e1s:j4→List Value→M CR:=X9 (b8E C8 NN)
theorem e1T:I4 Tryz.prog A9 F8 NN 186 e1s:=O6 (pn:=false) rfl (by kernel_rfl) rfl (fun cb N call a b=>(d6u cb N call a b).trans (d2F cb N call a b))
noncomputable def e1v:j4→List Value→M CR:=R5 (b3q C8 NN)
theorem e1n:I4 Tryz.prog A9 F8 NN 187 e1v:=M4 (pn:=false) rfl (by kernel_rfl) rfl (fun cb N call a=>(d5y cb N call a).trans (c8L cb N call a))
noncomputable def e0N:j4→List Value→M CR:=R5 (b7r C8 NN)
theorem e0W:I4 Tryz.prog A9 F8 NN 188 e0N:=M4 (pn:=false) rfl (by kernel_rfl) rfl (fun cb N call a=>(d5p cb N call a).trans (c8K cb N call a))
noncomputable def d9G:j4→List Value→M CR:=ar3 (b1O C8 NN)
theorem e0u:I4 Tryz.prog A9 F8 NN 207 d9G:=a1S (pn:=false) rfl (by kernel_rfl) rfl (fun cb N call a b d=>(d6j cb N call a b d).trans (d0H cb N call a b d))
noncomputable def g35:j4→List Value→M CR:=arX (fun args=>M.lift (b0W args))
theorem e3T:I4 Tryz.prog A9 F8 NN 35 g35:=a1X rfl
noncomputable def g56:j4→List Value→M CR:=arX (fun args=>M.lift (a3Q args))
theorem e2H:I4 Tryz.prog A9 F8 NN 56 g56:=a1X rfl
noncomputable def g96:j4→List Value→M CR:=arX (a4e)
theorem e2x:I4 Tryz.prog A9 F8 NN 96 g96:=a1X rfl
noncomputable def e0Z:j4→List Value→M CR:=arX (fun args=>M.lift (b1h args))
theorem e1u:I4 Tryz.prog A9 F8 NN 109 e0Z:=a1X rfl
noncomputable def e1B:j4→List Value→M CR:=arX (a5q a2q)
theorem e1x:I4 Tryz.prog A9 F8 NN 122 e1B:=a1X rfl
noncomputable def e1D:j4→List Value→M CR:=arX (fun args=>M.lift (a1R args))
theorem e0k:I4 Tryz.prog A9 F8 NN 125 e1D:=a1X rfl
noncomputable def d9F:j4→List Value→M CR:=arX (fun args=>M.lift (a5G args))
theorem d9Y:I4 Tryz.prog A9 F8 NN 163 d9F:=a1X rfl
noncomputable def d6Y:R8:=(.node none (.node none (.node none (.node (some g7) (.node none .leaf (.node none (.node (some g79) (.node (some e1a) .leaf .leaf) (.node (some d9G) .leaf .leaf)) (.node (some d9w) .leaf .leaf))) (.node none (.node (some g39) (.node (some g71) (.node (some e1i) .leaf .leaf) .leaf) .leaf) (.node none .leaf (.node none (.node (some e0c) .leaf .leaf) .leaf)))) (.node none (.node none (.node (some g35) .leaf (.node none (.node (some d9F) .leaf .leaf) .leaf)) (.node none (.node none (.node (some e1q) .leaf .leaf) .leaf) .leaf)) (.node (some g27) (.node none (.node (some g75) (.node (some e0F) .leaf .leaf) .leaf) (.node (some e1L) .leaf .leaf)) (.node none (.node (some g91) .leaf .leaf) (.node none (.node (some e1v) .leaf .leaf) .leaf))))) (.node none (.node none (.node none (.node none (.node (some g65) .leaf .leaf) .leaf) (.node none (.node (some g81) (.node (some d9D) .leaf .leaf) .leaf) (.node (some e1e) .leaf .leaf))) (.node (some g25) (.node none (.node (some g73) (.node (some e1U) .leaf .leaf) .leaf) (.node (some e1E) .leaf .leaf)) (.node none .leaf (.node none (.node (some d9I) .leaf .leaf) .leaf)))) (.node none (.node (some g21) (.node none (.node (some g69) (.node (some e1m) .leaf .leaf) .leaf) .leaf) (.node none (.node (some g85) (.node (some e0b) .leaf .leaf) .leaf) (.node (some d9H) (.node (some e0H) .leaf .leaf) .leaf))) (.node (some g29) (.node none (.node (some g77) (.node (some e1S) .leaf .leaf) .leaf) (.node (some e0Z) .leaf .leaf)) (.node none .leaf (.node (some e1D) .leaf .leaf)))))) (.node none (.node none (.node none (.node none (.node (some g32) (.node (some g64) .leaf .leaf) (.node (some g96) .leaf .leaf)) (.node none (.node (some g80) (.node (some e1g) .leaf .leaf) .leaf) (.node (some e1j) .leaf .leaf))) (.node none (.node (some g40) (.node (some g72) (.node (some e0p) .leaf .leaf) .leaf) (.node (some e0X) .leaf .leaf)) (.node (some g56) .leaf (.node none (.node (some e1t) .leaf .leaf) .leaf)))) (.node none (.node (some g20) .leaf (.node none (.node none (.node (some e0T) .leaf .leaf) .leaf) .leaf)) (.node none (.node none (.node (some g76) (.node (some e1N) .leaf .leaf) .leaf) .leaf) (.node none (.node (some g92) .leaf .leaf) (.node (some e0w) (.node (some e0N) .leaf .leaf) .leaf))))) (.node none (.node none (.node none (.node none (.node none (.node (some e0j) .leaf .leaf) .leaf) (.node none (.node (some e0G) .leaf .leaf) .leaf)) (.node none (.node none (.node (some e0K) .leaf .leaf) .leaf) .leaf)) (.node none (.node none (.node (some g74) (.node (some d9K) .leaf .leaf) .leaf) (.node (some e1p) .leaf .leaf)) (.node none .leaf (.node (some e1B) (.node (some e1s) .leaf .leaf) .leaf)))) (.node none (.node none (.node none (.node none (.node (some e0v) .leaf .leaf) .leaf) .leaf) (.node none .leaf (.node (some e0e) (.node (some e1O) .leaf .leaf) .leaf))) (.node (some g30) (.node none (.node none (.node (some e1W) .leaf .leaf) .leaf) (.node (some e0U) .leaf .leaf)) (.node none (.node (some g94) .leaf .leaf) .leaf))))))
theorem e8u:a2V Tryz.prog A9 F8 NN d6Y:=d8c (.node .none (.node .none (.node .none (.node (.some f0z) (.node .none .leaf (.node .none (.node (.some e6S) (.node (.some e1P) .leaf .leaf) (.node (.some e0u) .leaf .leaf)) (.node (.some e1l) .leaf .leaf))) (.node .none (.node (.some e4Y) (.node (.some e5J) (.node (.some d9U) .leaf .leaf) .leaf) .leaf) (.node .none .leaf (.node .none (.node (.some e0h) .leaf .leaf) .leaf)))) (.node .none (.node .none (.node (.some e3T) .leaf (.node .none (.node (.some d9Y) .leaf .leaf) .leaf)) (.node .none (.node .none (.node (.some e0P) .leaf .leaf) .leaf) .leaf)) (.node (.some e4Q) (.node .none (.node (.some e6e) (.node (.some d9y) .leaf .leaf) .leaf) (.node (.some d9J) .leaf .leaf)) (.node .none (.node (.some e6u) .leaf .leaf) (.node .none (.node (.some e1n) .leaf .leaf) .leaf))))) (.node .none (.node .none (.node .none (.node .none (.node (.some e2R) .leaf .leaf) .leaf) (.node .none (.node (.some e6z) (.node (.some e0z) .leaf .leaf) .leaf) (.node (.some d9O) .leaf .leaf))) (.node (.some e2d) (.node .none (.node (.some e3Q) (.node (.some e0C) .leaf .leaf) .leaf) (.node (.some e1G) .leaf .leaf)) (.node .none .leaf (.node .none (.node (.some e1Q) .leaf .leaf) .leaf)))) (.node .none (.node (.some e5K) (.node .none (.node (.some e6j) (.node (.some e0q) .leaf .leaf) .leaf) .leaf) (.node .none (.node (.some e6o) (.node (.some e1c) .leaf .leaf) .leaf) (.node (.some e0J) (.node (.some e0I) .leaf .leaf) .leaf))) (.node (.some e2e) (.node .none (.node (.some e6H) (.node (.some e0y) .leaf .leaf) .leaf) (.node (.some e1u) .leaf .leaf)) (.node .none .leaf (.node (.some e0k) .leaf .leaf)))))) (.node .none (.node .none (.node .none (.node .none (.node (.some e4x) (.node (.some e6s) .leaf .leaf) (.node (.some e2x) .leaf .leaf)) (.node .none (.node (.some e4z) (.node (.some e0Q) .leaf .leaf) .leaf) (.node (.some e0l) .leaf .leaf))) (.node .none (.node (.some e5a) (.node (.some e4H) (.node (.some e1z) .leaf .leaf) .leaf) (.node (.some e1H) .leaf .leaf)) (.node (.some e2H) .leaf (.node .none (.node (.some d9x) .leaf .leaf) .leaf)))) (.node .none (.node (.some e6K) .leaf (.node .none (.node .none (.node (.some e1w) .leaf .leaf) .leaf) .leaf)) (.node .none (.node .none (.node (.some e4k) (.node (.some d9Z) .leaf .leaf) .leaf) .leaf) (.node .none (.node (.some e4i) .leaf .leaf) (.node (.some e1M) (.node (.some e0W) .leaf .leaf) .leaf))))) (.node .none (.node .none (.node .none (.node .none (.node .none (.node (.some d9B) .leaf .leaf) .leaf) (.node .none (.node (.some e0t) .leaf .leaf) .leaf)) (.node .none (.node .none (.node (.some d9R) .leaf .leaf) .leaf) .leaf)) (.node .none (.node .none (.node (.some e3s) (.node (.some e1d) .leaf .leaf) .leaf) (.node (.some e1V) .leaf .leaf)) (.node .none .leaf (.node (.some e1x) (.node (.some e1T) .leaf .leaf) .leaf)))) (.node .none (.node .none (.node .none (.node .none (.node (.some e1A) .leaf .leaf) .leaf) .leaf) (.node .none .leaf (.node (.some e0m) (.node (.some e1y) .leaf .leaf) .leaf))) (.node (.some e2a) (.node .none (.node .none (.node (.some d9L) .leaf .leaf) .leaf) (.node (.some e1F) .leaf .leaf)) (.node .none (.node (.some e6g) .leaf .leaf) .leaf))))))
end Go.Proofs.YtmomonnlmbljoaaGreatDoor
end
section
namespace Go.Proofs.YtmomonnlmbljoaaGreatDoor
open Go.V Go.Proofs
set_option maxRecDepth 1000000
noncomputable def d9T (r:Option (Value×S)):Option Value:=match r with
 | some x=>some x.1
 | none=>none
theorem d4F {r:Option (Value×S)} {v:Value} (h:d9T r=some v):∃ s,r=some (v,s):=by
 cases r with
 | none=>cases h
 | some x=>obtain ⟨u,s⟩:=x; cases h; exact ⟨s,rfl⟩
theorem c7U (mL:Int):d9T (a0u Tryz.prog A9 F8 400 11 [] (Go.V.a0v (K4 mL)))=some (.bool true):=by kernel_rfl
theorem b5X {mL:Int}:a0t Tryz.prog (K4 mL) 11 [] (.bool true):=by
 obtain ⟨s,h⟩:=d4F (c7U mL)
 exact b9t b7I a3n a6k a2z b9U Tryz.func11 (by kernel_rfl) rfl rfl rfl h
end Go.Proofs.YtmomonnlmbljoaaGreatDoor
end
section
namespace Go.V
section
variable {P:Program}
end
end Go.V
end
section
namespace Go.V
open Go.RowKit (Below)
section
variable {P:Program} {T:Tab} {vs:R3}
theorem b0K {f:Nat} {g:List Value→Option Value} (h:∀ aS9 v,g aS9=some v→L6 (G8 8) aS9=true∧G8 8 v=true∧a0t P vs f aS9 v):a0s P T vs f (fun aS9=>M.lift (g aS9)):=by
 refine ⟨fun _=>Fr.lift _, ?_⟩
 intro B0 w0 hL hB aS9 s v s' w K as' hg S hG F has
 obtain ⟨e1,e2⟩:=a1H hg
 obtain ⟨t1,t2,t3⟩:=h aS9 v e1
 rw [a1s has t1]
 obtain ⟨c1,c2⟩:=t3 w (hL.below S.below hB)
 refine Or.inr ⟨c1,c2.mono fun e w' ⟨q1,q2⟩=>⟨v,K,q1,⟨KM.le_refl K,fun _ _ _=>rfl, ?_⟩,L8 8 v t2⟩⟩
 subst e2
 exact a0z S ⟨q2.os,q2.tape,q2.output,q2.size,q2.block⟩
noncomputable def b1l (sh:R8) (f:Nat) (g:List Value→M Value):R8:=Trie.put (some (arX g)) (f+1) sh f
theorem d0W (sh:R8) (f:Nat) (g:List Value→M Value) (i:Nat):(b1l sh f g).get i=if i=f then some (arX g) else sh.get i:=Trie.get_put _ _ _ _ (Nat.lt_succ_self _) _
theorem d5W {ext:Nat→Option (List Value→M Value)} {N:Nat} {sh:R8} (hs:a2V P T ext N sh) (f:Nat) (g:List Value→M Value):a2V P T (Y6 ext f g) N (b1l sh f g):=by
 intro i q hi
 rw [d0W] at hi
 by_cases hif:i=f
 · subst hif
   rw [if_pos rfl] at hi
   cases hi
   exact a1X (by unfold Y6; rw [d4U])
 · rw [if_neg hif] at hi
   have h0:=hs i q hi
   have e:Y6 ext f g i=ext i:=by unfold Y6; rw [d2j hif]
   intro call args
   have:=h0 call args
   unfold atF at this ⊢
   rw [e]
   exact this
structure Shelf' (P:Program) (T:Tab) (vs:R3) (N:Nat) (ext:Nat→Option (List Value→M Value)) (sh:R8):Prop where
 e:Y5 P T vs ext
 s:a2V P T ext N sh
theorem Shelf'.add {N:Nat} {ext:Nat→Option (List Value→M Value)} {sh:R8} (L:Shelf' P T vs N ext sh) {f:Nat} {g:List Value→M Value} (hg:a0s P T vs f g):Shelf' P T vs N (Y6 ext f g) (b1l sh f g):=
 ⟨a1w L.e hg,d5W L.s f g⟩
theorem c3g (sh:R8) (n f:Nat) (aS9:List Value) {q:j4→List Value→M CR} (h:sh.get f=some q):a0L sh (n+1) f aS9=q (a0L sh n) aS9:=by
 show M.obind (sh.get f) (fun g=>g (a0L sh n) aS9)=_
 rw [h]; rfl
end
end Go.V
end
section
namespace Go.Proofs.YtmomonnlmbljoaaGreatDoor
open Go.V Go.Proofs
set_option maxRecDepth 1000000
noncomputable def alL (bs:List Value):Option Value:=match bs with
 | []=>some (.bool true)
 | _=>none
noncomputable def sL:R8:=b1l d6Y 11 (fun bs=>M.lift (alL bs))
noncomputable def d6h (r:Option (CR×S)):Bool:=match r with
 | some x=>match x.1 with
   | .ret (.bool b)=>b
   | _=>false
 | none=>false
theorem d4N {r:Option (CR×S)} (h:d6h r=true):∃ s,r=some (.ret (.bool true),s):=by
 unfold d6h at h
 split at h
 · rename_i x
   obtain ⟨x1,s⟩:=x
   split at h
   · rename_i b e
     cases e
     cases h
     exact ⟨s,rfl⟩
   · cases h
 · cases h
noncomputable def I9 (mL:Int) (n k:Nat):Bool:=d6h (a5H C8 NN (a0L sL 400) (.int .i64 (.ofNat n)) (.int .i64 (.ofNat k)) (Go.V.a0v (K4 mL)))
end Go.Proofs.YtmomonnlmbljoaaGreatDoor
end
