import Derived.Lib.AppendIntMem
import Derived.Laws.StructEq
import Derived.Test.YtmomonnlmbljoaaGreatDoorQai
import Derived.Test.YtmomonnlmbljoaaGreatDoorQak
import Derived.Test.YtmomonnlmbljoaaGreatDoorQal
import Derived.Test.YtmomonnlmbljoaaGreatDoorQam
import Derived.Test.YtmomonnlmbljoaaGreatDoorQan
import Derived.Test.YtmomonnlmbljoaaGreatDoorQao
section
namespace Go.Proofs.YtmomonnlmbljoaaGreatDoor
open Go.V Go.RowKit Go.Shelf Go.Proofs
set_option maxRecDepth 100000
variable {mL:Int}
theorem b3M {bs:List Value} {v:Value} (h:a9t bs=some v):a0N (a0y 8) bs=true ∧ a0y 8 v=true ∧ a7d Tryz.prog (W9 mL) 125 bs v:=by
 unfold a9t at h
 split at h
 · rename_i s sub
   cases hb:Nat.blt (M4 s.data.toList) 4294967281 with
   | false=>rw [hb] at h; cases h
   | true=>
     rw [hb] at h
     cases h
     refine ⟨rfl,rfl,fun w hL=>⟨a2d Tryz.func125 (by kernel_rfl) rfl, ?_⟩⟩
     have hs:s.size < 4294967281:=by rw [a0m] at hb; simpa using hb
     refine (Any.strings_Contains Tryz.lContains s sub mL w hs (hL.cell 3 _ rfl 0 _ rfl)).mono fun e w' hq=>?_
     obtain ⟨rfl,rfl⟩:=hq
     exact ⟨by rw [b7g],Below.refl _ _⟩
 · cases h
theorem c2i:Builder.Extra Tryz.prog Tryz.lRepeat_ren where
 sizeBuilder:=by kernel_rfl
 liesBuilder:=by kernel_rfl
 t5:=Tryz.underlying5
 a5:=Tryz.isAgg5
 z5:=Tryz.sizeOf5
 v5:=Tryz.zeroValue5
 infoByte:=by kernel_rfl
 cellsByte:=by kernel_rfl
 sizeByte:=by kernel_rfl
 neB5:=by decide
theorem b4U:Builder.Extra Tryz.prog Tryz.lJoin_ren where
 sizeBuilder:=by kernel_rfl
 liesBuilder:=by kernel_rfl
 t5:=Tryz.underlying5
 a5:=Tryz.isAgg5
 z5:=Tryz.sizeOf5
 v5:=Tryz.zeroValue5
 infoByte:=by kernel_rfl
 cellsByte:=by kernel_rfl
 sizeByte:=by kernel_rfl
 neB5:=by decide
theorem b5a {bs:List Value} {v:Value} (h:b1P bs=some v):a0N (a0y 8) bs=true ∧ a0y 8 v=true ∧ a7d Tryz.prog (W9 mL) 56 bs v:=by
 unfold b1P at h
 split at h
 · rename_i s c
   cases hb:Nat.blt c 4294967296 && Nat.ble (M4 s.data.toList * c) 4294967296 with
   | false=>rw [hb] at h; cases h
   | true=>
     rw [hb] at h
     cases h
     simp only [Bool.and_eq_true] at hb
     refine ⟨rfl,rfl,fun w hL=>⟨a2d Tryz.func56 (by kernel_rfl) rfl, ?_⟩⟩
     have h1:c < 4294967296:=by simpa using hb.1
     have h2:s.size * c ≤ 4294967296:=by
      have:=Nat.le_of_ble_eq_true hb.2
      rw [a0m] at this
      simpa using this
     refine (Any.strings_Repeat Tryz.lRepeat c2i s c w (by omega) (by omega)).mono fun e w' hq=>?_
     obtain ⟨rfl,hq⟩:=hq
     exact ⟨by rw [c0Q],hq⟩
 · cases h
theorem c2W:a0f Tryz.prog Q6 (W9 mL) 96 a7M:=
 b8T (fun _ _=>a2d Tryz.func96 (by kernel_rfl) rfl) (fun a c sep w=>Any.strings_Join_none Tryz.lJoin b4U a c sep w)
  (fun bk o c xs sep w h1 h2 h3 h4 h5=>Any.strings_Join Tryz.lJoin b4U bk o c xs sep w h1 h2 h3 h4 h5)
theorem c2g:a0f Tryz.prog Q6 (W9 mL) 163 (fun bs=>M.lift (b2S bs)):=b5X fun bs v h=>by
 unfold b2S at h
 split at h
 · rename_i x y c
   cases hb:Nat.ble c 1 with
   | false=>rw [hb] at h; cases h
   | true=>
     rw [hb] at h
     cases h
     refine ⟨rfl,rfl,fun w=>?_⟩
     have hc:=Nat.le_of_ble_eq_true hb
     have e:(callFunc 163 #[.int .u64 (x:Int),.int .u64 (y:Int),.int .u64 (c:Int)]).run Tryz.prog w =
      .ok (.value (.tuple #[.int .u64 (((x + y + c) % 18446744073709551616:Nat):Int),.int .u64 (((x + y + c) / 18446744073709551616:Nat):Int)])) w:=by
      rw [run_callFunc_extern Tryz.func163 (by kernel_rfl) (by kernel_rfl) (by kernel_rfl) (e:=add64Entry) (by kernel_rfl),run_add64 x y c (by omega) (by omega) (by omega) (by omega)]
      simp only [Result.andThen]
      congr 5 <;> omega
     exact e
 · cases h
noncomputable def a0W:Nat → Option (List Value → M Value):=a0H (a0H (a8U (a8U c8n 125 a9t) 56 b1P) 96 a7M) 163 (fun bs=>M.lift (b2S bs))
theorem a9E:a4P Tryz.prog Q6 (W9 mL) a0W:=a8I (a8I (a8L (a8L c6m fun _ _ h=>b3M h) fun _ _ h=>b5a h) c2W) c2g
end Go.Proofs.YtmomonnlmbljoaaGreatDoor
end
section
namespace Go.Proofs.YtmomonnlmbljoaaGreatDoor
open Go.V Go.Proofs
set_option maxRecDepth 100000
noncomputable abbrev NN:Nat:=100000
variable {mL:Int}
noncomputable def g3:j5 → List Value → M CR:=ar2 (sh3 X3 NN)
theorem e0Z:Fit Tryz.prog Q6 a0W NN 3 g3:=a8H (pn:=false) rfl (by kernel_rfl) rfl d0e
noncomputable def g4:j5 → List Value → M CR:=ar1 (sh4 X3 NN)
theorem e0K:Fit Tryz.prog Q6 a0W NN 4 g4:=a2n (pn:=false) rfl (by kernel_rfl) rfl d0R
noncomputable def g10:j5 → List Value → M CR:=ar1 (b2t X3 NN)
theorem d7R:Fit Tryz.prog Q6 a0W NN 10 g10:=a2n (pn:=false) rfl (by kernel_rfl) rfl c6v
noncomputable def g12:j5 → List Value → M CR:=ar1 (a0u X3 NN)
theorem d3D:Fit Tryz.prog Q6 a0W NN 12 g12:=a2n (pn:=false) rfl (by kernel_rfl) rfl c7q
noncomputable def g13:j5 → List Value → M CR:=ar1 (a0Y X3 NN)
theorem d1n:Fit Tryz.prog Q6 a0W NN 13 g13:=a2n (pn:=false) rfl (by kernel_rfl) rfl c7j
noncomputable def g14:j5 → List Value → M CR:=ar1 (b7i X3 NN)
theorem d7S:Fit Tryz.prog Q6 a0W NN 14 g14:=a2n (pn:=false) rfl (by kernel_rfl) rfl c6t
noncomputable def g15:j5 → List Value → M CR:=ar1 (b6n X3 NN)
theorem d2x:Fit Tryz.prog Q6 a0W NN 15 g15:=a2n (pn:=false) rfl (by kernel_rfl) rfl c6S
noncomputable def g16:j5 → List Value → M CR:=ar2 (c9P X3 NN)
theorem d6Z:Fit Tryz.prog Q6 a0W NN 16 g16:=a8H (pn:=false) rfl (by kernel_rfl) rfl c6K
noncomputable def g17:j5 → List Value → M CR:=ar1 (c9K X3 NN)
theorem d9t:Fit Tryz.prog Q6 a0W NN 17 g17:=a2n (pn:=false) rfl (by kernel_rfl) rfl c7s
noncomputable def g18:j5 → List Value → M CR:=ar1 (c9y X3 NN)
theorem d3e:Fit Tryz.prog Q6 a0W NN 18 g18:=a2n (pn:=false) rfl (by kernel_rfl) rfl c5S
noncomputable def g19:j5 → List Value → M CR:=ar1 (b2u X3 NN)
theorem d7z:Fit Tryz.prog Q6 a0W NN 19 g19:=a2n (pn:=false) rfl (by kernel_rfl) rfl c7a
noncomputable def g25:j5 → List Value → M CR:=ar1 (b4n X3 NN)
theorem d3F:Fit Tryz.prog Q6 a0W NN 25 g25:=a2n (pn:=false) rfl (by kernel_rfl) rfl c6i
noncomputable def g34:j5 → List Value → M CR:=ar1 (b2B X3 NN)
theorem d7x:Fit Tryz.prog Q6 a0W NN 34 g34:=a2n (pn:=false) rfl (by kernel_rfl) rfl c5V
noncomputable def g36:j5 → List Value → M CR:=ar2 (a4h X3 NN)
theorem d2i:Fit Tryz.prog Q6 a0W NN 36 g36:=a8H (pn:=false) rfl (by kernel_rfl) rfl c6N
noncomputable def g38:j5 → List Value → M CR:=ar2 (a3b X3 NN)
theorem d8N:Fit Tryz.prog Q6 a0W NN 38 g38:=a8H (pn:=false) rfl (by kernel_rfl) rfl c5T
noncomputable def g39:j5 → List Value → M CR:=ar1 (b7k X3 NN)
theorem d4T:Fit Tryz.prog Q6 a0W NN 39 g39:=a2n (pn:=false) rfl (by kernel_rfl) rfl c6T
noncomputable def g40:j5 → List Value → M CR:=ar1 (b8s X3 NN)
theorem d7f:Fit Tryz.prog Q6 a0W NN 40 g40:=a2n (pn:=false) rfl (by kernel_rfl) rfl c6X
noncomputable def g41:j5 → List Value → M CR:=ar1 (b1d X3 NN)
theorem d7P:Fit Tryz.prog Q6 a0W NN 41 g41:=a2n (pn:=false) rfl (by kernel_rfl) rfl c7t
noncomputable def g42:j5 → List Value → M CR:=ar2 (b1i X3 NN)
theorem d4O:Fit Tryz.prog Q6 a0W NN 42 g42:=a8H (pn:=false) rfl (by kernel_rfl) rfl c6q
noncomputable def g43:j5 → List Value → M CR:=ar1 (b7Q X3 NN)
theorem d7Y:Fit Tryz.prog Q6 a0W NN 43 g43:=a2n (pn:=false) rfl (by kernel_rfl) rfl c6k
noncomputable def g44:j5 → List Value → M CR:=ar1 (a2Z X3 NN)
theorem d6Q:Fit Tryz.prog Q6 a0W NN 44 g44:=a2n (pn:=false) rfl (by kernel_rfl) rfl c7p
noncomputable def g45:j5 → List Value → M CR:=ar1 (b4i X3 NN)
theorem d8o:Fit Tryz.prog Q6 a0W NN 45 g45:=a2n (pn:=false) rfl (by kernel_rfl) rfl c6d
noncomputable def g46:j5 → List Value → M CR:=ar1 (b3O X3 NN)
theorem d9h:Fit Tryz.prog Q6 a0W NN 46 g46:=a2n (pn:=false) rfl (by kernel_rfl) rfl c6V
noncomputable def g47:j5 → List Value → M CR:=ar1 (b7D X3 NN)
theorem d6o:Fit Tryz.prog Q6 a0W NN 47 g47:=a2n (pn:=false) rfl (by kernel_rfl) rfl c7n
noncomputable def g48:j5 → List Value → M CR:=ar1 (b8d X3 NN)
theorem d8Z:Fit Tryz.prog Q6 a0W NN 48 g48:=a2n (pn:=false) rfl (by kernel_rfl) rfl c6z
noncomputable def g49:j5 → List Value → M CR:=ar1 (b6i X3 NN)
theorem d6x:Fit Tryz.prog Q6 a0W NN 49 g49:=a2n (pn:=false) rfl (by kernel_rfl) rfl c6c
noncomputable def g50:j5 → List Value → M CR:=ar1 (b5W X3 NN)
theorem d6u:Fit Tryz.prog Q6 a0W NN 50 g50:=a2n (pn:=false) rfl (by kernel_rfl) rfl c6f
noncomputable def g51:j5 → List Value → M CR:=ar2 (b6w X3 NN)
theorem d1E:Fit Tryz.prog Q6 a0W NN 51 g51:=a8H (pn:=false) rfl (by kernel_rfl) rfl c6Y
noncomputable def g52:j5 → List Value → M CR:=ar1 (b1t X3 NN)
theorem d1w:Fit Tryz.prog Q6 a0W NN 52 g52:=a2n (pn:=false) rfl (by kernel_rfl) rfl c7i
noncomputable def g53:j5 → List Value → M CR:=ar2 (a9C X3 NN)
theorem d6z:Fit Tryz.prog Q6 a0W NN 53 g53:=a8H (pn:=false) rfl (by kernel_rfl) rfl c7b
noncomputable def g54:j5 → List Value → M CR:=ar1 (b6M X3 NN)
theorem d5U:Fit Tryz.prog Q6 a0W NN 54 g54:=a2n (pn:=false) rfl (by kernel_rfl) rfl c6Q
noncomputable def g55:j5 → List Value → M CR:=ar1 (b7E X3 NN)
theorem d1Q:Fit Tryz.prog Q6 a0W NN 55 g55:=a2n (pn:=false) rfl (by kernel_rfl) rfl c7e
noncomputable def g57:j5 → List Value → M CR:=ar1 (b4b X3 NN)
theorem d9p:Fit Tryz.prog Q6 a0W NN 57 g57:=a2n (pn:=false) rfl (by kernel_rfl) rfl c6e
noncomputable def g58:j5 → List Value → M CR:=ar1 (b8r X3 NN)
theorem d6F:Fit Tryz.prog Q6 a0W NN 58 g58:=a2n (pn:=false) rfl (by kernel_rfl) rfl c7f
noncomputable def g59:j5 → List Value → M CR:=ar1 (b7T X3 NN)
theorem d8Q:Fit Tryz.prog Q6 a0W NN 59 g59:=a2n (pn:=false) rfl (by kernel_rfl) rfl c5U
noncomputable def g60:j5 → List Value → M CR:=ar1 (b7C X3 NN)
theorem d7d:Fit Tryz.prog Q6 a0W NN 60 g60:=a2n (pn:=false) rfl (by kernel_rfl) rfl c6M
noncomputable def g61:j5 → List Value → M CR:=ar1 (b7P X3 NN)
theorem d2J:Fit Tryz.prog Q6 a0W NN 61 g61:=a2n (pn:=false) rfl (by kernel_rfl) rfl c6J
noncomputable def g63:j5 → List Value → M CR:=ar1 (d0I X3 NN)
theorem d1O:Fit Tryz.prog Q6 a0W NN 63 g63:=a2n (pn:=false) rfl (by kernel_rfl) rfl c6p
noncomputable def g84:j5 → List Value → M CR:=ar1 (a5k X3 NN)
theorem d5S:Fit Tryz.prog Q6 a0W NN 84 g84:=a2n (pn:=false) rfl (by kernel_rfl) rfl c6a
noncomputable def g85:j5 → List Value → M CR:=ar1 (b6Z X3 NN)
theorem d7e:Fit Tryz.prog Q6 a0W NN 85 g85:=a2n (pn:=false) rfl (by kernel_rfl) rfl c6x
noncomputable def g86:j5 → List Value → M CR:=ar1 (b6x X3 NN)
theorem d1G:Fit Tryz.prog Q6 a0W NN 86 g86:=a2n (pn:=false) rfl (by kernel_rfl) rfl c6E
noncomputable def g87:j5 → List Value → M CR:=ar1 (b6t X3 NN)
theorem d3A:Fit Tryz.prog Q6 a0W NN 87 g87:=a2n (pn:=false) rfl (by kernel_rfl) rfl c7r
noncomputable def g88:j5 → List Value → M CR:=ar1 (b6o X3 NN)
theorem d1J:Fit Tryz.prog Q6 a0W NN 88 g88:=a2n (pn:=false) rfl (by kernel_rfl) rfl c6I
noncomputable def g91:j5 → List Value → M CR:=ar1 (b6F X3 NN)
theorem d5l:Fit Tryz.prog Q6 a0W NN 91 g91:=a2n (pn:=false) rfl (by kernel_rfl) rfl c7y
noncomputable def g92:j5 → List Value → M CR:=ar1 (b6L X3 NN)
theorem d5E:Fit Tryz.prog Q6 a0W NN 92 g92:=a2n (pn:=false) rfl (by kernel_rfl) rfl c6j
noncomputable def g93:j5 → List Value → M CR:=ar2 (c0n X3 NN)
theorem d5T:Fit Tryz.prog Q6 a0W NN 93 g93:=a8H (pn:=false) rfl (by kernel_rfl) rfl c6F
noncomputable def g94:j5 → List Value → M CR:=ar1 (c8S X3 NN)
theorem d4U:Fit Tryz.prog Q6 a0W NN 94 g94:=a2n (pn:=false) rfl (by kernel_rfl) rfl c6G
noncomputable def g97:j5 → List Value → M CR:=ar1 (b8t X3 NN)
theorem d2w:Fit Tryz.prog Q6 a0W NN 97 g97:=a2n (pn:=false) rfl (by kernel_rfl) rfl c6A
noncomputable def g98:j5 → List Value → M CR:=ar1 (c8y X3 NN)
theorem d8m:Fit Tryz.prog Q6 a0W NN 98 g98:=a2n (pn:=false) rfl (by kernel_rfl) rfl c6P
noncomputable def c8A:j5 → List Value → M CR:=ar1 (b2M X3 NN)
theorem c8G:Fit Tryz.prog Q6 a0W NN 124 c8A:=a2n (pn:=false) rfl (by kernel_rfl) rfl c3q
noncomputable def c8H:j5 → List Value → M CR:=ar0 (c4J X3 NN)
theorem c8Z:Fit Tryz.prog Q6 a0W NN 127 c8H:=b1U (pn:=false) rfl (by kernel_rfl) rfl c4d
noncomputable def c9r:j5 → List Value → M CR:=ar1 (c5M X3 NN)
theorem d1c:Fit Tryz.prog Q6 a0W NN 128 c9r:=a2n (pn:=false) rfl (by kernel_rfl) rfl c4h
noncomputable def c7N:j5 → List Value → M CR:=ar0 (c4W X3 NN)
theorem c7Z:Fit Tryz.prog Q6 a0W NN 172 c7N:=b1U (pn:=false) rfl (by kernel_rfl) rfl c3Y
noncomputable def d0J:j5 → List Value → M CR:=ar0 (c5n X3 NN)
theorem c8t:Fit Tryz.prog Q6 a0W NN 173 d0J:=b1U (pn:=false) rfl (by kernel_rfl) rfl c3J
noncomputable def c7M:j5 → List Value → M CR:=ar3 (c4G X3 NN)
theorem c9H:Fit Tryz.prog Q6 a0W NN 174 c7M:=d4b (pn:=false) rfl (by kernel_rfl) rfl c4p
noncomputable def c9j:j5 → List Value → M CR:=ar0 (c5v X3 NN)
theorem d0N:Fit Tryz.prog Q6 a0W NN 175 c9j:=b1U (pn:=false) rfl (by kernel_rfl) rfl c4f
noncomputable def c9p:j5 → List Value → M CR:=ar0 (c4Y X3 NN)
theorem c7Y:Fit Tryz.prog Q6 a0W NN 176 c9p:=b1U (pn:=false) rfl (by kernel_rfl) rfl c3S
noncomputable def c7G:j5 → List Value → M CR:=ar0 (c5D X3 NN)
theorem d0f:Fit Tryz.prog Q6 a0W NN 177 c7G:=b1U (pn:=false) rfl (by kernel_rfl) rfl c4q
noncomputable def c9N:j5 → List Value → M CR:=ar2 (c5J X3 NN)
theorem c9G:Fit Tryz.prog Q6 a0W NN 178 c9N:=a8H (pn:=false) rfl (by kernel_rfl) rfl c3e
noncomputable def g35:j5 → List Value → M CR:=arX (fun args=>M.lift (b5M args))
theorem d3r:Fit Tryz.prog Q6 a0W NN 35 g35:=a9m rfl
noncomputable def g56:j5 → List Value → M CR:=arX (fun args=>M.lift (b1P args))
theorem d1K:Fit Tryz.prog Q6 a0W NN 56 g56:=a9m rfl
noncomputable def g96:j5 → List Value → M CR:=arX (a7M)
theorem d8W:Fit Tryz.prog Q6 a0W NN 96 g96:=a9m rfl
noncomputable def d0D:j5 → List Value → M CR:=arX (fun args=>M.lift (b5s args))
theorem c7L:Fit Tryz.prog Q6 a0W NN 109 d0D:=a9m rfl
noncomputable def c9J:j5 → List Value → M CR:=arX (b3H b0c)
theorem d0o:Fit Tryz.prog Q6 a0W NN 122 c9J:=a9m rfl
noncomputable def c8P:j5 → List Value → M CR:=arX (fun args=>M.lift (a9t args))
theorem c7z:Fit Tryz.prog Q6 a0W NN 125 c8P:=a9m rfl
noncomputable def d0p:j5 → List Value → M CR:=arX (fun args=>M.lift (b2S args))
theorem c7X:Fit Tryz.prog Q6 a0W NN 163 d0p:=a9m rfl
noncomputable def b0C:a2i:=(.node none (.node none (.node (some g3) (.node none (.node (some g15) (.node none (.node (some g63) (.node (some c8H) .leaf .leaf) .leaf) .leaf) (.node (some g47) .leaf (.node none (.node (some c9j) .leaf .leaf) .leaf))) (.node none (.node (some g39) .leaf .leaf) (.node (some g55) (.node (some g87) .leaf .leaf) .leaf))) (.node none (.node (some g19) (.node (some g35) .leaf (.node none (.node (some d0p) .leaf .leaf) .leaf)) (.node (some g51) .leaf .leaf)) (.node none (.node (some g43) .leaf .leaf) (.node (some g59) (.node (some g91) .leaf .leaf) .leaf)))) (.node none (.node none (.node (some g17) (.node none .leaf (.node (some g97) .leaf .leaf)) (.node (some g49) .leaf (.node none (.node (some c7G) .leaf .leaf) .leaf))) (.node (some g25) (.node (some g41) .leaf .leaf) (.node (some g57) .leaf .leaf))) (.node (some g13) (.node none .leaf (.node (some g53) (.node (some g85) .leaf .leaf) .leaf)) (.node none (.node (some g45) .leaf (.node (some d0D) (.node (some d0J) .leaf .leaf) .leaf)) (.node (some g61) (.node (some g93) .leaf .leaf) (.node (some c8P) .leaf .leaf)))))) (.node none (.node (some g4) (.node none (.node (some g16) (.node none (.node none (.node (some c9r) .leaf .leaf) .leaf) (.node (some g96) .leaf .leaf)) (.node (some g48) .leaf (.node none (.node (some c9p) .leaf .leaf) .leaf))) (.node none (.node (some g40) .leaf .leaf) (.node (some g56) (.node (some g88) .leaf .leaf) .leaf))) (.node (some g12) (.node none (.node (some g36) .leaf .leaf) (.node (some g52) (.node (some g84) .leaf .leaf) .leaf)) (.node none (.node (some g44) .leaf (.node none (.node (some c7N) .leaf .leaf) .leaf)) (.node (some g60) (.node (some g92) .leaf .leaf) (.node (some c8A) .leaf .leaf))))) (.node none (.node (some g10) (.node (some g18) (.node (some g34) .leaf (.node (some g98) .leaf .leaf)) (.node (some g50) .leaf (.node none (.node (some c9N) .leaf .leaf) .leaf))) (.node none (.node (some g42) .leaf .leaf) (.node (some g58) .leaf (.node (some c9J) .leaf .leaf)))) (.node (some g14) (.node none (.node (some g38) .leaf .leaf) (.node (some g54) (.node (some g86) .leaf .leaf) .leaf)) (.node none (.node (some g46) .leaf (.node none (.node (some c7M) .leaf .leaf) .leaf)) (.node none (.node (some g94) .leaf .leaf) .leaf))))))
theorem c0d:a7O Tryz.prog Q6 a0W NN b0C:=c6C (.node .none (.node .none (.node (.some e0Z) (.node .none (.node (.some d2x) (.node .none (.node (.some d1O) (.node (.some c8Z) .leaf .leaf) .leaf) .leaf) (.node (.some d6o) .leaf (.node .none (.node (.some d0N) .leaf .leaf) .leaf))) (.node .none (.node (.some d4T) .leaf .leaf) (.node (.some d1Q) (.node (.some d3A) .leaf .leaf) .leaf))) (.node .none (.node (.some d7z) (.node (.some d3r) .leaf (.node .none (.node (.some c7X) .leaf .leaf) .leaf)) (.node (.some d1E) .leaf .leaf)) (.node .none (.node (.some d7Y) .leaf .leaf) (.node (.some d8Q) (.node (.some d5l) .leaf .leaf) .leaf)))) (.node .none (.node .none (.node (.some d9t) (.node .none .leaf (.node (.some d2w) .leaf .leaf)) (.node (.some d6x) .leaf (.node .none (.node (.some d0f) .leaf .leaf) .leaf))) (.node (.some d3F) (.node (.some d7P) .leaf .leaf) (.node (.some d9p) .leaf .leaf))) (.node (.some d1n) (.node .none .leaf (.node (.some d6z) (.node (.some d7e) .leaf .leaf) .leaf)) (.node .none (.node (.some d8o) .leaf (.node (.some c7L) (.node (.some c8t) .leaf .leaf) .leaf)) (.node (.some d2J) (.node (.some d5T) .leaf .leaf) (.node (.some c7z) .leaf .leaf)))))) (.node .none (.node (.some e0K) (.node .none (.node (.some d6Z) (.node .none (.node .none (.node (.some d1c) .leaf .leaf) .leaf) (.node (.some d8W) .leaf .leaf)) (.node (.some d8Z) .leaf (.node .none (.node (.some c7Y) .leaf .leaf) .leaf))) (.node .none (.node (.some d7f) .leaf .leaf) (.node (.some d1K) (.node (.some d1J) .leaf .leaf) .leaf))) (.node (.some d3D) (.node .none (.node (.some d2i) .leaf .leaf) (.node (.some d1w) (.node (.some d5S) .leaf .leaf) .leaf)) (.node .none (.node (.some d6Q) .leaf (.node .none (.node (.some c7Z) .leaf .leaf) .leaf)) (.node (.some d7d) (.node (.some d5E) .leaf .leaf) (.node (.some c8G) .leaf .leaf))))) (.node .none (.node (.some d7R) (.node (.some d3e) (.node (.some d7x) .leaf (.node (.some d8m) .leaf .leaf)) (.node (.some d6u) .leaf (.node .none (.node (.some c9G) .leaf .leaf) .leaf))) (.node .none (.node (.some d4O) .leaf .leaf) (.node (.some d6F) .leaf (.node (.some d0o) .leaf .leaf)))) (.node (.some d7S) (.node .none (.node (.some d8N) .leaf .leaf) (.node (.some d5U) (.node (.some d1G) .leaf .leaf) .leaf)) (.node .none (.node (.some d9h) .leaf (.node .none (.node (.some c9H) .leaf .leaf) .leaf)) (.node .none (.node (.some d4U) .leaf .leaf) .leaf))))))
end Go.Proofs.YtmomonnlmbljoaaGreatDoor
end
section

end
section
namespace Go.Proofs.YtmomonnlmbljoaaGreatDoor
open Go.Shelf Go.RowKit Go.Sort Go.Lib
set_option maxHeartbeats 6400000 in
set_option maxRecDepth 100000 in
theorem b5i (u:Nat) (hu64:u < 18446744073709551616) (w:World) (htab:Lib.TabIs Tryz.prog w "internal/strconv.uint64pow10" .u64 Lib.pow10Tab) :
 Calls Tryz.prog 126 #[.int .u64 u,.int .i64 10] w fun e w'=>e=.returned (.string ⟨(Lib.decDigits u).toArray⟩) ∧ ∃ k os,w'=grow (w.drewN k) os:=by
 have e167:∀ args w,(callFunc 167 args).run Tryz.prog w=.ok (.enter 167 args) w:=enters_of Tryz.func167 (by kernel_rfl) rfl
 have e168:∀ args w,(callFunc 168 args).run Tryz.prog w=.ok (.enter 168 args) w:=enters_of Tryz.func168 (by kernel_rfl) rfl
 have e169:∀ args w,(callFunc 169 args).run Tryz.prog w=.ok (.enter 169 args) w:=enters_of Tryz.func169 (by kernel_rfl) rfl
 by_cases hs:u < 100
 · have hwr:IntKind.i64.wrap (u:Int)=(u:Int):=by rw [IntKind.wrap_i64]; omega
   go_enter Tryz.func126,Tryz.ntmps126
   go_wp2_with (go_at_call 167; refine (Any.internal_strconv_small { Tryz.lFormatInt with } u hs _).mono ?_; rintro e w' ⟨rfl,rfl⟩)
   go_ret
   exact ⟨rfl, 0, #[],by simp [World.drewN_zero]⟩
 · have hu1:1 ≤ u:=by omega
   have hnd20:Lib.nDigits u ≤ 20:=by have:=Lib.numDigits_eq u hu1 hu64; split at this <;> omega
   have hb3:Lib.nDigits u ≤ 24:=by omega
   have hal:Tryz.prog.arrayLen 222=24:=by simp [Program.arrayLen,Tryz.underlying222]
   have hsl1:∀ W,(Instr.sliceAt 222 (.pointer (some ⟨w.heap.size, 0,none⟩)) none (some (.int .i64 (Lib.nDigits u:Int))) none).run Tryz.prog W=.ok (.slice (some ⟨w.heap.size, 0,none⟩) (Lib.nDigits u) 24) W:=fun W=>by
    rw [run_sliceAt_array_h W 222 ⟨w.heap.size, 0,none⟩ (by simp [Program.arrayLen,Program.elem,Tryz.underlying222]) .i64 (Lib.nDigits u:Int) (by omega) (by rw [hal]; omega)]
    go_simp
   have hH0:=Lib.holds_zero0 w 222 (Lib.nDigits u) (by omega)
   have hfmt:=Any.internal_strconv_formatBase10 { Tryz.lFormatInt with } w.heap.size 0 24 u (Array.replicate (Lib.nDigits u) 0) (w.alloc (.cells Lib.zeros24 222)) hH0 (by rw [Array.size_replicate]; exact Lib.lt_pow_nDigits u) hu64 (by rw [Array.size_replicate]; omega)
   rw [Array.size_replicate] at hfmt
   have HH0:=Lib.hid hH0
   clear hH0
   go_enter Tryz.func126,Tryz.ntmps126
   go_wp2_with (first
    | (go_at_call 168; refine (Any.internal_strconv_numDigits { Tryz.lFormatInt with } u hu1 hu64 _ (Lib.tabIs_alloc htab _)).mono ?_; rintro e w' ⟨rfl,rfl⟩))
   go_at_call 169
   refine hfmt.mono ?_
   rintro e w' ⟨rfl,k,v',dk,rfl,hF⟩
   have hcv:(convert 149 9 (.slice (some ⟨w.heap.size, 0,none⟩) (Lib.nDigits u) 24)).run Tryz.prog ((putRow (fun (b:UInt8)=>Value.int .u8 (b.toNat:Int)) (w.alloc (.cells Lib.zeros24 222)) w.heap.size 0 dk).drewN k)=.ok (.string ⟨(Lib.decDigits u).toArray⟩) ((putRow (fun (b:UInt8)=>Value.int .u8 (b.toNat:Int)) (w.alloc (.cells Lib.zeros24 222)) w.heap.size 0 dk).drewN k):=by
    have h:=run_convert_bytes_back (P:=Tryz.prog) ((putRow (fun (b:UInt8)=>Value.int .u8 (b.toNat:Int)) (w.alloc (.cells Lib.zeros24 222)) w.heap.size 0 dk).drewN k) 149 9 5 ⟨w.heap.size, 0,none⟩ 24 (Lib.decDigits u) Tryz.underlying149 Tryz.underlying5 Tryz.underlying9 (fun j hj=>by
     rw [Lib.row_is_numeral hF j hj,Lib.add_plain,World.cell?_drewN]
     exact cell?_putRow (fun (b:UInt8)=>Value.int .u8 (b.toNat:Int)) _ w.heap.size 0 _ dk HH0.out (by rw [hF.size,Array.size_replicate]) j (by rw [hF.size]; rw [Lib.decDigits_length] at hj; exact hj))
    rw [Lib.decDigits_length] at h
    exact h
   go_wp2
   go_ret
   obtain ⟨os,eo⟩:=Lib.fin_at w (.cells Lib.zeros24 222) dk k 0
   exact ⟨rfl,k,os,eo⟩
end Go.Proofs.YtmomonnlmbljoaaGreatDoor
end
section
noncomputable section
namespace Go.V
def go {α:Type} (m:M α) (s:S):Option (α × S):=m s
def a3u {α β:Type} (x:Option (α × S)) (f:α → M β):Option (β × S):=match x with
 | none=>none
 | some y=>go (f y.1) y.2
theorem K6 {α β:Type} (m:M α) (f:α → M β) (s:S):go (M.bind m f) s=a3u (go m s) f:=Eq.trans rfl rfl
theorem I8 {α β:Type} (a:α) (s:S) (f:α → M β):a3u (some (a,s)) f=go (f a) s:=Eq.trans rfl rfl
theorem a0b {α β:Type} {x y:Option (α × S)} (f:α → M β) (h:x=y):a3u x f=a3u y f:=by rw [h]
theorem a9A {α β γ:Type} (x:Option (α × S)) (f:α → M β) (g:β → M γ):a3u (a3u x f) g=a3u x fun a=>M.bind (f a) g:=by cases x <;> rfl
theorem Z9 {α:Type} {b b':Bool} (x y:α) (h:b=b'):bcase b x y=bcase b' x y:=by rw [h]
theorem M0 {α:Type} (a:α) (s:S):go (M.pure a) s=some (a,s):=Eq.trans rfl rfl
theorem b4j {α:Type} (s:S):go (M.fail:M α) s=none:=Eq.trans rfl rfl
theorem J8 {β:Type} (v:Value) (kn kp:Value → M β):a3Y (.ret v) kn kp=kn v:=Eq.trans rfl rfl
theorem a4b {β:Type} (b:Bool) (x y:M β) (s:S):go (bcase b x y) s=bcase b (go x s) (go y s):=by cases b <;> rfl
theorem a5X {β:Type} (b:Bool) (a a':β) (c:Nat) (h:Trie VObj) (r r' w w':List Nat) :
 bcase b (some (a,(⟨c,h,r,w⟩:S))) (some (a',⟨c,h,r',w'⟩))=some (bcase b a a',⟨c,h,bcase b r r',bcase b w w'⟩):=by cases b <;> rfl
theorem U5 {α:Type} (b:Bool) (x:α):bcase b x x=x:=by cases b <;> rfl
theorem E5 (k:IntKind) (n:Int):(Value.int k n).cells.toList=[.int k n]:=Eq.trans rfl rfl
theorem A8 (b:Bool):(Value.bool b).cells.toList=[.bool b]:=Eq.trans rfl rfl
theorem j6 (s:ByteArray):(Value.string s).cells.toList=[.string s]:=Eq.trans rfl rfl
theorem l7 (a:Option Addr) (n e:Nat):(Value.slice a n e).cells.toList=[.slice a n e]:=Eq.trans rfl rfl
theorem l6 (a:Option Addr):(Value.pointer a).cells.toList=[.pointer a]:=Eq.trans rfl rfl
theorem l9 (f:Fn) (a b:Array Value):(Value.func f a b).cells.toList=[.func f a b]:=Eq.trans rfl rfl
theorem C9 (l:List Value):(Value.agg ⟨l⟩).cells.toList=l:=Eq.trans rfl rfl
theorem G7 (k:IntKind) (n:Int):a1c (.int k n)=true:=Eq.trans rfl rfl
theorem F7 (b:Bool):a1c (.bool b)=true:=Eq.trans rfl rfl
theorem l8 (s:ByteArray):a1c (.string s)=true:=Eq.trans rfl rfl
theorem D6 (a:Option Addr) (n e:Nat):a1c (.slice a n e)=true:=Eq.trans rfl rfl
theorem q8 (a:Option Addr):a1c (.pointer a)=true:=Eq.trans rfl rfl
theorem F6 (f:Fn) (a b:Array Value):a1c (.func f a b)=true:=Eq.trans rfl rfl
theorem b4O (k:IntKind) (n:Nat):a8i (.int k (.ofNat n))=some n:=Eq.trans rfl rfl
theorem G6 (n:Nat):Nat.beq (n + 1) 0=false:=Eq.trans rfl rfl
theorem G5 (n:Nat):Nat.beq 0 (n + 1)=false:=Eq.trans rfl rfl
theorem F9 (n m:Nat):Nat.beq (n + 1) (m + 1)=Nat.beq n m:=Eq.trans rfl rfl
theorem H8 (n m:Nat):Nat.ble (n + 1) (m + 1)=Nat.ble n m:=Eq.trans rfl rfl
theorem H9 (n:Nat):Nat.ble (n + 1) 0=false:=Eq.trans rfl rfl
theorem a2j (a b:Nat) (h:a ≠ b):Nat.beq a b=false:=a9p h
theorem F4 (a:Nat):Nat.ble a a=true:=Nat.ble_eq_true_of_le (Nat.le_refl _)
def ldS {γ:Type} (lt:Bool) (ob:Option VObj) (o g n:Nat) (k:List Value → Option γ):Option γ:=match lt with
 | true=>match ob with
   | some (.cells cs _ _)=>match a0w g (a3l cs o) n with
     | some vs=>k vs
     | none=>none
   | _=>none
 | false=>none
def oS {α γ:Type} (x:Option α) (k:α → Option γ):Option γ:=match x with
 | some a=>k a
 | none=>none
theorem N9 {α γ:Type} (a:α) (k:α → Option γ):oS (some a) k=k a:=Eq.trans rfl rfl
theorem a0M {α γ:Type} {x y:Option α} (k:α → Option γ) (h:x=y):oS x k=oS y k:=by rw [h]
theorem K7 {γ:Type} (cs:List (Value × Nat)) (cur:Nat) (ro:Bool) (o g n:Nat) (k:List Value → Option γ):ldS true (some (.cells cs cur ro)) o g n k=oS (a0w g (a3l cs o) n) k:=by
 unfold ldS oS
 simp only
 cases a0w g (a3l cs o) n <;> simp only
theorem a0A {γ:Type} {lt lt':Bool} {ob ob':Option VObj} (o g n:Nat) (k:List Value → Option γ) (h1:lt=lt') (h2:ob=ob'):ldS lt ob o g n k=ldS lt' ob' o g n k:=by rw [h1,h2]
section
variable (c:Nat) (h:Trie VObj) (r w:List Nat)
theorem a6N (b o g n:Nat):go (loadN ⟨b,o,some g⟩ n) ⟨c,h,r,w⟩=ldS (Nat.blt b c) (h.get b) o g n fun vs=>some (vs,⟨c,h,b :: r,w⟩):=by
 unfold go loadN ldS
 simp only [P7,V.M.bind,rd]
 cases Nat.blt b c with
 | false=>rfl
 | true=>cases h.get b with
   | none=>rfl
   | some ob=>cases ob with
     | cells cs cur ro=>
       simp only [a8y,M.lift]
       cases a0w g (a3l cs o) n <;> rfl
     | _=>rfl
theorem b3W {γ δ:Type} (lt:Bool) (ob:Option VObj) (o g n:Nat) (k:List Value → Option γ) (f:Option γ → Option δ) (hf:f none=none):f (ldS lt ob o g n k)=ldS lt ob o g n fun vs=>f (k vs):=by
 unfold ldS
 cases lt with
 | false=>exact hf
 | true=>cases ob with
   | none=>exact hf
   | some ob=>cases ob with
     | cells cs cur ro=>
       simp only
       cases a0w g (a3l cs o) n with
       | none=>exact hf
       | some vs=>rfl
     | _=>exact hf
theorem M9 (b o g:Nat):go (K5 (.pointer (some ⟨b,o,some g⟩))) ⟨c,h,r,w⟩=ldS (Nat.blt b c) (h.get b) o g 1 fun vs=>some (d9 vs 0,⟨c,h,b :: r,w⟩):=by
 unfold K5
 rw [a9h,K6,a6N]
 exact b3W _ _ _ _ _ _ (fun x=>a3u x fun vs=>M.pure (d9 vs 0)) rfl
theorem P8 (n b o g:Nat):go (a3p n (.pointer (some ⟨b,o,some g⟩))) ⟨c,h,r,w⟩=ldS (Nat.blt b c) (h.get b) o g n fun vs=>some (.agg ⟨vs⟩,⟨c,h,b :: r,w⟩):=by
 unfold a3p
 rw [a9h,K6,a6N]
 exact b3W _ _ _ _ _ _ (fun x=>a3u x fun vs=>M.pure (Value.agg ⟨vs⟩)) rfl
def stS {γ:Type} (lt:Bool) (ob:Option VObj) (o g:Nat) (vs:List Value) (k:List (Value × Nat) → Nat → Bool → Option γ):Option γ:=match lt with
 | true=>match ob with
   | some (.cells cs cur ro)=>match Nat.beq g cur && !ro && a0N a1c vs && Nat.ble (o + M4 vs) (M4 cs) with
     | true=>match a5F g vs cs o with
       | some cs'=>k cs' cur ro
       | none=>none
     | false=>none
   | _=>none
 | false=>none
theorem X5 {γ:Type} (cs:List (Value × Nat)) (cur:Nat) (ro:Bool) (o g:Nat) (vs:List Value) (k:List (Value × Nat) → Nat → Bool → Option γ) (e:(Nat.beq g cur && !ro && a0N a1c vs && Nat.ble (o + M4 vs) (M4 cs))=true) :
 stS true (some (.cells cs cur ro)) o g vs k=oS (a5F g vs cs o) fun cs'=>k cs' cur ro:=by
 unfold stS oS; simp only [e]
 cases a5F g vs cs o <;> simp only
theorem a0B {γ:Type} {lt lt':Bool} {ob ob':Option VObj} (o g:Nat) (vs:List Value) (k:List (Value × Nat) → Nat → Bool → Option γ) (h1:lt=lt') (h2:ob=ob'):stS lt ob o g vs k=stS lt' ob' o g vs k:=by rw [h1,h2]
theorem c2M (b o g:Nat) (vs:List Value):go (storeN ⟨b,o,some g⟩ vs) ⟨c,h,r,w⟩=stS (Nat.blt b c) (h.get b) o g vs fun cs' cur ro=>some ((),⟨c,upd h b (.cells cs' cur ro),b :: r,b :: w⟩):=by
 unfold storeN stS
 simp only [P7]
 rw [K6]
 show a3u (rd b ⟨c,h,r,w⟩) _=_
 rw [c1E]
 cases hb:Nat.blt b c with
 | false=>rfl
 | true=>cases ho:h.get b with
   | none=>rfl
   | some ob=>cases ob with
     | cells cs cur ro=>
       simp only [I8,a8y]
       cases Nat.beq g cur && !ro && a0N a1c vs && Nat.ble (o + M4 vs) (M4 cs) with
       | false=>rfl
       | true=>
         simp only [Q8]
         cases a5F g vs cs o with
         | none=>rfl
         | some cs'=>
           simp only [P7,a3m]
           show wr b _ _=_
           rw [c1S,hb,ho]
     | _=>rfl
theorem a0j (n b o g:Nat) (v:Value) (e2:(!(Nat.beq n 0) && Nat.beq (M4 v.cells.toList) n)=true) :
 go (a4M n (.pointer (some ⟨b,o,some g⟩)) v) ⟨c,h,r,w⟩=stS (Nat.blt b c) (h.get b) o g v.cells.toList fun cs' cur ro=>some (undef,⟨c,upd h b (.cells cs' cur ro),b :: r,b :: w⟩):=by
 unfold a4M
 rw [a9h,K6,e2,Q8,c2M]
 generalize v.cells.toList=l
 unfold stS
 cases Nat.blt b c with
 | false=>rfl
 | true=>cases h.get b with
   | none=>rfl
   | some ob=>cases ob with
     | cells cs cur ro=>
       simp only
       cases Nat.beq g cur && !ro && a0N a1c l && Nat.ble (o + M4 l) (M4 cs) with
       | false=>rfl
       | true=>
         simp only
         cases a5F g l cs o <;> rfl
     | _=>rfl
theorem a6r (vs:List Value) (e:a0N a1c vs=true):go (a2q vs) ⟨c,h,r,w⟩=some (⟨c, 0,some 0⟩,⟨c + 1,upd h c (.cells (a2m (fun v=>(v, 0)) vs) 0 false),r,c :: w⟩):=by
 unfold a2q
 rw [e,Q8,a3m,K6]
 show a3u (new _ _) _=_
 rw [c6H]
 rfl
theorem a0Z (zs:List Value) (e:a0N a1c zs=true):go (b0A zs) ⟨c,h,r,w⟩=some (.pointer (some ⟨c, 0,some 0⟩),⟨c + 1,upd h c (.cells (a2m (fun v=>(v, 0)) zs) 0 false),r,c :: w⟩):=by
 unfold b0A; rw [K6,a6r c h r w zs e]; rfl
theorem d0l (v:Value) (l:List Value) (hv:v.cells.toList=l) (e:(a0N a1c l && !(F3 l))=true):go (a6X v) ⟨c,h,r,w⟩=some (.pointer (some ⟨c, 0,some 0⟩),⟨c + 1,upd h c (.cells (a2m (fun v=>(v, 0)) l) 0 false),r,c :: w⟩):=by
 rw [Bool.and_eq_true] at e
 unfold a6X; rw [hv,e.2,Q8,K6,a6r c h r w l e.1]; rfl
theorem K8 (l:List Value) (e:(a0N a1c l && !(F3 l))=true):go (a6X (.agg ⟨l⟩)) ⟨c,h,r,w⟩=some (.pointer (some ⟨c, 0,some 0⟩),⟨c + 1,upd h c (.cells (a2m (fun v=>(v, 0)) l) 0 false),r,c :: w⟩):=d0l c h r w _ l rfl e
theorem V5 (n len:Nat) (os:List (Nat × Nat)) (vs zs:List Value) :
 go (a2p n len os vs zs) ⟨c,h,r,w⟩=oS (a8J os vs zs) fun cs=>bcase (a0N a1c cs) (some (.slice (some ⟨c, 0,some 0⟩) len n,⟨c + 1,upd h c (.cells (a2m (fun v=>(v, 0)) cs) 0 false),r,c :: w⟩)) none:=by
 unfold a2p
 cases a8J os vs zs with
 | none=>rfl
 | some cs=>
   rw [P7,K6,N9]
   cases e:a0N a1c cs with
   | true=>rw [a6r c h r w cs e]; rfl
   | false=>
     show Go.V.a3u (a2q cs ⟨c,h,r,w⟩) _=none
     unfold a2q
     rw [e]; rfl
end
theorem a7x (os:List (Nat × Nat)) (vs zs:List Value):a0c os vs zs=M.obind (a8J os vs zs) fun cs=>M.pure (.agg ⟨cs⟩):=Eq.trans rfl rfl
theorem U9 (vs zs:List Value):a8J [] vs zs=some zs:=by cases vs <;> rfl
theorem V4 (q:Nat × Nat) (os:List (Nat × Nat)) (v:Value) (vs zs:List Value) (e:(Nat.beq (M4 v.cells.toList) q.2 && Nat.ble (q.1 + q.2) (M4 zs))=true):a8J (q :: os) (v :: vs) zs=a8J os vs (a4E v.cells.toList zs q.1):=by
 show (match Nat.beq (M4 v.cells.toList) q.2 && Nat.ble (q.1 + q.2) (M4 zs) with | true=>a8J os vs (a4E v.cells.toList zs q.1) | false=>none)=_
 rw [e]
theorem a0l (vs:List Value) (c:Value) (cs:List Value):a4E vs (c :: cs) 0=a6K vs (c :: cs):=Eq.trans rfl rfl
theorem c2U (vs:List Value) (c:Value) (cs:List Value) (n:Nat):a4E vs (c :: cs) (n + 1)=c :: a4E vs cs n:=Eq.trans rfl rfl
theorem R3 (cs:List Value):a6K [] cs=cs:=Eq.trans rfl rfl
theorem Q5 (v:Value) (vs:List Value) (c:Value) (cs:List Value):a6K (v :: vs) (c :: cs)=v :: a6K vs cs:=Eq.trans rfl rfl
theorem Q0 (off b o:Nat) (g:Option Nat):xFA off (.pointer (some ⟨b,o,g⟩))=M.pure (.pointer (some ⟨b,o + off,g⟩)):=Eq.trans rfl rfl
theorem a6m (a:Option Addr) (n e:Nat):a4q (.slice a n e)=M.pure (.int .i64 (.ofNat n)):=Eq.trans rfl rfl
theorem a0G (fn:Fn) (va vb:List Value):c0O fn va vb=M.pure (.func fn ⟨va⟩ ⟨vb⟩):=Eq.trans rfl rfl
theorem a7P (k k':IntKind) (n:Int):b0p k (.int k' n)=M.pure (.int k (a1d k n)):=Eq.trans rfl rfl
theorem a7u (n i len:Nat) (k:IntKind) (b o:Nat) (g:Option Nat) (e:i < len) (e2:n ≠ 0):a5I n (.slice (some ⟨b,o,g⟩) len n) (.int k (.ofNat i))=M.pure (.pointer (some ⟨b,o + i * n,g⟩)):=by
 unfold a5I elemAtN
 simp only [b4O,P7,j4,Q8,I5 e,a9p e2]
 rfl
theorem c2j (x y:List UInt8) (e:M4 x + M4 y < a6w):b1H .add x y=some (.string ⟨⟨M6 x y⟩⟩):=by
 show (match Nat.blt (M4 x + M4 y) a6w with | true=>fList (M6 x y) fun l=>some (Value.string ⟨⟨l⟩⟩) | false=>none)=_
 rw [I5 e]
 simp only [a3m]
section
variable (p:Program) (T:Tab)
theorem c1C (t:TypeId) (x y:Operand) (s s':ByteArray):a4r p T .eql t x y (.string s) (.string s')=M.pure (.bool (beqBytes s.data.toList s'.data.toList)):=Eq.trans rfl rfl
theorem a9f (t:TypeId) (x y:Operand) (s s':ByteArray):a4r p T .neq t x y (.string s) (.string s')=M.pure (.bool (!(beqBytes s.data.toList s'.data.toList))):=Eq.trans rfl rfl
theorem a0n (t:TypeId) (x y:Operand) (s s':ByteArray) (e:M4 s.data.toList + M4 s'.data.toList < 4294967296):a4r p T .add t x y (.string s) (.string s')=M.pure (.string ⟨⟨M6 s.data.toList s'.data.toList⟩⟩):=by
 show M.lift (b1H .add s.data.toList s'.data.toList)=_
 rw [c2j _ _ e]; rfl
end
end Go.V
namespace Go.V
theorem c1w {α:Type} (l:List α) (a b:Nat):a3l l (a + b)=a3l (a3l l a) b:=by rw [a6h,a6h,a6h,List.drop_drop]
theorem a3B {σ:Type} (body:σ → M (Xc × σ)) (n:Nat) (x:σ) (s:S):go (a4d body (n + 1) x) s=a3u (go (body x) s) fun r=>M5 r.1 (a4d body n r.2) (fun id=>M.pure (.exit id,r.2)) (M.pure (.ret,r.2)) (fun v=>M.pure (.pan v,r.2)):=Eq.trans rfl rfl
theorem I6.cases {α:Type} {b:Bool} {x y:Option (α × S)} {Q:α → S → Prop} (h1:b=true → I6 x Q) (h2:b=false → I6 y Q):I6 (bcase b x y) Q:=by
 cases b with
 | true=>exact h1 rfl
 | false=>exact h2 rfl
theorem I6.bindS {α β:Type} {x:Option (α × S)} {f:α → M β} {P:α → S → Prop} {Q:β → S → Prop} (h:I6 x P) (k:∀ a s',P a s' → I6 (go (f a) s') Q):I6 (a3u x f) Q:=by
 obtain ⟨a,s',rfl,p⟩:=h
 exact k a s' p
theorem I6.done {α:Type} {a:α} {s:S} {Q:α → S → Prop} (h:Q a s):I6 (Option.some (a,s)) Q:=⟨a,s,rfl,h⟩
theorem b8Q {α β:Type} (b:Bool) (x y:Option (α × S)) (f:α → M β):a3u (bcase b x y) f=bcase b (a3u x f) (a3u y f):=by cases b <;> rfl
end Go.V
end
section
namespace Go.V
section
variable {P:Program}
theorem a4T {α β:Type} (x:Sem α) (f:α → Sem β):a3e P (x >>= f)=match a3e P x with
 | some a=>a3e P (f a)
 | none=>none:=by
 show a3e P (x.bind f)=_
 induction x with
 | pure a=>rfl
 | program k ih=>exact ih P
 | mark m k ih=>exact ih
 | _=>rfl
theorem a9J {α:Type} (a:α):a3e P (pure a:Sem α)=some a:=rfl
theorem b0y:a3e P program=some P:=rfl
theorem a8B {t:TypeId} {d:TypeDesc} (h:P.underlying t=some d):a3e P (underlying t)=some d:=by
 unfold underlying
 rw [a4T,b0y]
 simp only [h]
 rfl
theorem b9w {t:TypeId} {k:IntKind} (h:P.underlying t=some (.int k)) (cs:Array Value) (off:Nat) (v:Value) (hv:cs[off]?=some v):a3e P (part t cs off)=some v:=by
 unfold part isAgg
 rw [a4T,a4T,a8B h]
 simp only [a9J,hv]
 rfl
theorem c4a (d:Nat) {t:TypeId} {k' k:IntKind} (h:P.underlying t=some (.int k')) (a b:Int):a3e P (Op.equalIn (d + 1) t (.int k a) (.int k b))=some (a == b):=by
 unfold Op.equalIn
 rw [a4T,a8B h]
 simp
 rfl
def a6I (P:Program):List Field → Nat → List Int → List Int → List Value → List Value → Prop
 | [],_, [], [],_,_=>True
 | f :: fs,o,a :: aS9,b :: bs,xs,ys=>f.name ≠ "_" ∧ f.offset=o ∧ (∃ k',P.underlying f.type=some (.int k')) ∧ (∃ k,xs[o]?=some (.int k a) ∧ ys[o]?=some (.int k b)) ∧ a6I P fs (o + 1) aS9 bs xs ys
 | _,_,_,_,_,_=>False
def a7K:List Int → List Int → Bool
 | a :: aS9,b :: bs=>decide (a=b) && a7K aS9 bs
 | _,_=>true
theorem b8Y (d:Nat) {t:TypeId} {fs:Array Field} (ht:P.underlying t=some (.struct fs)) (hp:P.stoodInHeld t=false) (xs ys:List Value) (aS9 bs:List Int) (h:a6I P fs.toList 0 aS9 bs xs ys) :
 a3e P (Op.equalIn (d + 2) t (.agg ⟨xs⟩) (.agg ⟨ys⟩))=some (a7K aS9 bs):=by
 unfold Op.equalIn
 rw [a4T,a8B ht]
 simp only []
 rw [a4T,b0y]
 simp only [hp,Bool.false_eq_true,if_false]
 rw [a4T, ← Array.forIn_toList]
 generalize fs.toList=l at h ⊢
 clear ht
 revert h
 generalize 0=o
 induction l generalizing o aS9 bs with
 | nil=>
   intro h
   cases aS9 with
   | nil=>cases bs with
     | nil=>simp [List.forIn_nil,a9J,a7K]
     | cons b bs=>exact absurd h (by simp [a6I])
   | cons a aS9=>exact absurd h (by simp [a6I])
 | cons f l ih=>
   intro h
   cases aS9 with
   | nil=>exact absurd h (by simp [a6I])
   | cons a aS9=>cases bs with
     | nil=>exact absurd h (by simp [a6I])
     | cons b bs=>
       obtain ⟨h1,rfl,⟨k',h3⟩,⟨k,h4,h5⟩,h6⟩:=h
       have i1:=ih aS9 bs _ h6
       rw [List.forIn_cons,a4T,if_pos h1,a4T,b9w h3 ⟨xs⟩ f.offset _ (by simpa using h4)]
       simp only [a4T,b9w h3 ⟨ys⟩ f.offset _ (by simpa using h5),c4a d h3]
       by_cases hab:a=b
       · have e:(!a == b)=false:=by simp [hab]
         rw [if_neg (by rw [e]; decide)]
         simp only [a9J]
         rw [i1]
         show some (a7K aS9 bs)=some (decide (a=b) && a7K aS9 bs)
         rw [decide_eq_true hab,Bool.true_and]
       · have e:(!a == b)=true:=by simp [hab]
         rw [if_pos e]
         simp only [a9J]
         show some false=some (decide (a=b) && a7K aS9 bs)
         rw [decide_eq_false hab,Bool.false_and]
theorem b4m (op:BinOp) (t:TypeId) (x y:Operand) (xs ys:Array Value) (hm:P.eqGuardType P.depth t=false):a3e P (eqGuard op t x y (.agg xs) (.agg ys))=some ():=by
 cases op <;> simp only [eqGuard,Bool.not_false,Bool.not_true,Bool.false_eq_true,if_true,if_false,a9J,a4T,b0y,hm] <;> rfl
theorem b8z {T:Tab} {op:BinOp} (hop:op=.eql ∨ op=.neq) {t:TypeId} {x y:Operand} {fs:Array Field} (ht:P.underlying t=some (.struct fs)) (hp:P.stoodInHeld t=false) (hm:P.eqGuardType P.depth t=false)
 {xs ys:List Value} {aS9 bs:List Int} (h:a6I P fs.toList 0 aS9 bs xs ys) (hx:a0y 8 (.agg ⟨xs⟩)=true) (hy:a0y 8 (.agg ⟨ys⟩)=true) (hT:∀ d,T.types.get t=some d → d.und=.struct fs) :
 a4r P T op t x y (.agg ⟨xs⟩) (.agg ⟨ys⟩)=M.pure (.bool (b2y op (a7K aS9 bs))):=by
 have hn:a9U T op t x y (.agg ⟨xs⟩) (.agg ⟨ys⟩)=none:=by
  unfold a9U
  cases c3l op && (isConstO x || isConstO y) with
  | false=>rfl
  | true=>
    cases hd:T.types.get t with
    | none=>rfl
    | some d=>simp only [hT d hd]; rfl
 have e:=b8Y (P:=P) 9998 ht hp xs ys aS9 bs h
 show a8z P T op t x y (.agg ⟨xs⟩) (.agg ⟨ys⟩)=_
 unfold a8z
 rw [hn]
 simp only [hx,hy,Bool.and_self,Q8]
 have k:a3e P (do eqGuard op t x y (.agg ⟨xs⟩) (.agg ⟨ys⟩); binOp op t (.agg ⟨xs⟩) (.agg ⟨ys⟩))=some (.bool (b2y op (a7K aS9 bs))):=by
  rw [a4T,b4m _ _ _ _ _ _ hm]
  rcases hop with rfl | rfl
  · simp only [binOp,Op.equal,Op.maxDepth]
    rw [a4T]
    rw [show (10000:Nat)=9998 + 2 from rfl,e]
    rfl
  · simp only [binOp,Op.equal,Op.maxDepth]
    rw [a4T]
    rw [show (10000:Nat)=9998 + 2 from rfl,e]
    rfl
 rw [k]
 rfl
end
end Go.V
end
section
namespace Go.V
open Go.RowKit (Below)
section
variable {P:Program} {T:Tab} {vs:a4i}
noncomputable def a9Z (cs:List Value) (n e:Nat) (aS9:List Value):M Value:=match aS9 with
 | []=>M.bind (a2q cs) fun a=>M.pure (.slice (some a) n e)
 | _ :: _=>M.fail
theorem b7M (hT:TabOk P T) (hM:P.follows .mixedOrders=true) (hng:T.ng ≤ vs.length) (hp:∀ l ∈ vs, ∀ v ∈ l,plain v=true)
 {ext:Nat → Option (List Value → M Value)} (hE:a4P P T vs ext) {N:Nat} {sh:a2i} (hs:a7O P T ext N sh) {k f:Nat} {fn:Func} {c:Code} {s2:S} {b2 g2 n e cur:Nat} {cs:List (Value × Nat)}
 (hPf:P.funcs[f]?=some fn) (hnum:(fn.name == "runtime.NumGoroutine")=false) (hb:fn.body=some c)
 (h:J9 sh k f [] (a5f vs)=some (.ret (.slice (some ⟨b2, 0,some g2⟩) n e),s2)) (hcs:s2.h.get b2=some (.cells cs cur false))
 (hpl:a0N (fun x=>plain x.1 && Nat.ble x.2 g2) cs=true):a0f P T vs f (a9Z (a2m (·.1) cs) n e):=by
 refine ⟨fun aS9=>?_, ?_⟩
 · cases aS9 with
   | nil=>
     show Fr (M.bind (a2q (a2m (·.1) cs)) fun a=>M.pure (Value.slice (some a) n e))
     exact Fr.bind (Fr.newCells _) fun _=>Fr.pure _
   | cons a aS9=>exact Fr.fail
 · intro B0 w0 hL hB aS9 s v s1 w K as' hg S hG F has
   cases aS9 with
   | cons a aS9=>cases hg
   | nil=>
     have hg':M.bind (a2q (a2m (·.1) cs)) (fun a=>M.pure (Value.slice (some a) n e)) s=some (v,s1):=hg
     obtain ⟨a,s1',q1,q2⟩:=M8 hg'
     obtain ⟨rfl,rfl⟩:=J3 q2
     have e0:as'=[]:=List.length_eq_zero_iff.1 (by rw [has.len]; rfl)
     subst e0
     have hLw:=hL.below S.below hB
     have hE':=hE w.heap.size ⟨w,fun _=>True⟩ hLw hLw.size
     refine Or.inr ⟨a2d hPf hnum hb, ?_⟩
     rcases a9l hT hM hE' hs k f [] (a5f vs) _ s2 w (a6L vs) [] h (a9g (fun _ _=>trivial) (fun _ _=>trivial) hLw hp) (b0u hng) (fun i hi _=>by
      rw [a4c]
      have:vs.length ≤ i:=by have:=hi; unfold a5f at this; rw [a0m] at this; exact this
      rw [List.getElem?_eq_none this]) (VRL.nil _) with ⟨v1,v',w',K',_,q1,_⟩ | ⟨_,q⟩
     · rw [a2d hPf hnum hb] at q1; cases q1
     · refine q.mono fun e1 w' hq=>?_
       obtain ⟨v',K2,e2,st,r⟩:=hq
       refine ⟨v', ?_⟩
       obtain ⟨h1,h2,h3,h4⟩:=a9a q1
       generalize hz:Value.slice (some ⟨b2, 0,some g2⟩) n e=z at r
       cases r with
       | plain hpp=>subst hz; simp [V.plain] at hpp
       | slice hk l1 l2 l3 l4 l5=>
         cases hz
         rename_i l a'
         have hown:l.own=true:=((st.sim.gens b2 cs cur false hcs).1 g2 l hk).2 rfl
         have hblk:=st.sim.own b2 g2 l hk hown
         have hlo:l.lo=0:=Nat.le_zero.1 l1
         have G:Grew w w':=⟨st.sim.below.os,st.sim.below.tape,st.sim.below.output,st.sim.below.size,st.sim.below.block⟩
         have hK:∀ g,K s.c g=none:=S.none (F s.c (Nat.le_refl _) (by omega))
         have hsz:B0 ≤ w.heap.size:=Nat.le_trans S.size0.1 S.below.size
         refine ⟨K.put s.c 0 l,e2,⟨KM.le_put K _ (hK 0),fun i g hi=>KM.put_other K _ (fun q=>by omega), ?_⟩, ?_⟩
         · refine b4f (o:=.cells ((a2m (·.1) cs).map fun v=>(v, 0)) 0 false) (a6P S G) hK h4 (st.sim.dom b2 g2 l hk) (Nat.le_trans hsz hblk) hown (fun b g l' q=>by have:=S.dom b g l' q; omega) ?_ (fun es q=>by cases q) (fun x pos q=>by cases q)
           intro cs' cur' ro' q
           cases q
           refine ⟨rfl,rfl,fun x hx=>?_,hlo, ?_, ?_⟩
           · obtain ⟨v,_,rfl⟩:=List.mem_map.1 hx; rfl
           · exact st.sim.room b2 g2 l cs cur false hk hown hcs
           · intro off v0 st0 q
             rw [a3X,List.map_map,List.getElem?_map] at q
             cases hvo:cs[off]? with
             | none=>rw [hvo] at q; cases q
             | some y=>
               rw [hvo] at q
               cases q
               have hy:=(a1a _ _).1 hpl y (List.mem_of_getElem? hvo)
               rw [Bool.and_eq_true] at hy
               obtain ⟨v1,c1,c2⟩:=st.sim.cells b2 cs cur false g2 l hcs hk off y.1 y.2 hvo (Nat.le_of_ble_eq_true hy.2) (by omega)
               rw [c2.eq_of_plain hy.1] at c1
               exact ⟨y.1,by rw [hlo] at c1; exact c1,.plain hy.1⟩
         · rw [h2]
           exact VR.slice (KM.put_same _ _ _ _) l1 l2 l3 l4 l5
       | _=>cases hz
theorem b8I {c:Nat → Prop} {m:Nat → Option (Nat × Nat)}:∀ (n:Nat) (v:Value),a0y n v=true → VRen c m v v:=by
 intro n
 induction n with
 | zero=>intro v h; cases h
 | succ n ih=>
   intro v h
   have key:∀ l:List Value,a0N (a0y n) l=true → ∀ (i:Nat) (v w:Value),l[i]?=some v → l[i]?=some w → VRen c m v w:=fun l hl i v w h1 h2=>by
    rw [h1] at h2; cases h2
    exact ih _ ((a1a _ _).1 hl _ (List.mem_of_getElem? h1))
   cases v with
   | agg cs=>exact .agg rfl (key _ h)
   | tuple cs=>exact .tuple rfl (key _ h)
   | iface t v=>exact .iface (ih v h)
   | _=>exact .plain h
theorem b1c (hT:TabOk P T) (hM:P.follows .mixedOrders=true)
 {ext:Nat → Option (List Value → M Value)} (hE:a4P P T vs ext) {N:Nat} {sh:a2i} (hs:a7O P T ext N sh) {f:Nat} {fn:Func} {cd:Code}
 (hPf:P.funcs[f]?=some fn) (hnum:(fn.name == "runtime.NumGoroutine")=false) (hb:fn.body=some cd) {g:List Value → M Value} (hFr:∀ aS9,Fr (g aS9))
 (h:∀ aS9 s v s1,g aS9 s=some (v,s1) → a0y 8 v=true ∧ s1.c=s.c ∧ s1.h=s.h ∧ ∀ c,s.c ≤ c →
   ∃ n,I6 (go (J9 sh n f aS9) ⟨c,s.h,s.r,s.w⟩) fun x s2=>x=.ret v ∧ ∀ i,i < c → s2.h.get i=s.h.get i):a0f P T vs f g:=by
 refine b2g hT hM hE hs hPf hnum hb hFr fun aS9 s v s1 hg c' h1 h2 h3=>?_
 obtain ⟨q1,q2,q3,q4⟩:=h aS9 s v s1 hg
 obtain ⟨n,x,s2,e,rfl,hold⟩:=q4 c' h1
 refine ⟨n,v,s2,fun _=>none,e,⟨fun i hi=>Or.inr ⟨by rw [q3],hold i hi.1⟩,fun b b2 g2 hm=>(by cases hm),fun b hb _=>?_,fun b b' x x' hm=>(by cases hm)⟩,b8I 8 v q1,fun i h1 h2=>hold i h2⟩
 rw [q3]
 refine h3 b (Nat.le_of_not_lt fun hlt=>hb ⟨hlt,fun hx=>by omega⟩)
theorem a8E (hT:TabOk P T) (hM:P.follows .mixedOrders=true)
 {ext:Nat → Option (List Value → M Value)} (hE:a4P P T vs ext) {N:Nat} {sh:a2i} (hs:a7O P T ext N sh) {f:Nat} {fn:Func} {cd:Code}
 (hPf:P.funcs[f]?=some fn) (hnum:(fn.name == "runtime.NumGoroutine")=false) (hb:fn.body=some cd) {g:List Value → Option Value}
 (h:∀ aS9 v,g aS9=some v → a0y 8 v=true ∧ ∀ c h r w,
   ∃ n,I6 (go (J9 sh n f aS9) ⟨c,h,r,w⟩) fun x s2=>x=.ret v ∧ ∀ i,i < c → s2.h.get i=h.get i):a0f P T vs f (fun aS9=>M.lift (g aS9)):=by
 refine b1c hT hM hE hs hPf hnum hb (fun aS9=>Fr.lift _) fun aS9 s v s1 hg=>?_
 obtain ⟨e,rfl⟩:=a6g hg
 obtain ⟨q1,q2⟩:=h aS9 v e
 exact ⟨q1,rfl,rfl,fun c _=>q2 c s1.h s1.r s1.w⟩
theorem a6q {f:Nat} {g:List Value → Option Value} (h:∀ aS9 v,g aS9=some v → a0N (a0y 8) aS9=true ∧ a0y 8 v=true ∧ a7d P vs f aS9 v):a0f P T vs f (fun aS9=>M.lift (g aS9)):=by
 refine ⟨fun _=>Fr.lift _, ?_⟩
 intro B0 w0 hL hB aS9 s v s' w K as' hg S hG F has
 obtain ⟨e1,e2⟩:=a6g hg
 obtain ⟨t1,t2,t3⟩:=h aS9 v e1
 rw [a8C has t1]
 obtain ⟨c1,c2⟩:=t3 w (hL.below S.below hB)
 refine Or.inr ⟨c1,c2.mono fun e w' ⟨q1,q2⟩=>⟨v,K,q1,⟨KM.le_refl K,fun _ _ _=>rfl, ?_⟩,a3h 8 v t2⟩⟩
 subst e2
 exact a6P S ⟨q2.os,q2.tape,q2.output,q2.size,q2.block⟩
noncomputable def a2h (sh:a2i) (f:Nat) (g:List Value → M Value):a2i:=Trie.put (some (arX g)) (f + 1) sh f
theorem c1N (sh:a2i) (f:Nat) (g:List Value → M Value) (i:Nat):(a2h sh f g).get i=if i=f then some (arX g) else sh.get i:=Trie.get_put _ _ _ _ (Nat.lt_succ_self _) _
theorem c4n {ext:Nat → Option (List Value → M Value)} {N:Nat} {sh:a2i} (hs:a7O P T ext N sh) (f:Nat) (g:List Value → M Value):a7O P T (a0H ext f g) N (a2h sh f g):=by
 intro i q hi
 rw [c1N] at hi
 by_cases hif:i=f
 · subst hif
   rw [if_pos rfl] at hi
   cases hi
   exact a9m (by unfold a0H; rw [j4])
 · rw [if_neg hif] at hi
   have h0:=hs i q hi
   have e:a0H ext f g i=ext i:=by unfold a0H; rw [a9p hif]
   intro call args
   have:=h0 call args
   unfold atF at this ⊢
   rw [e]
   exact this
structure Shelf' (P:Program) (T:Tab) (vs:a4i) (N:Nat) (ext:Nat → Option (List Value → M Value)) (sh:a2i):Prop where
 e:a4P P T vs ext
 s:a7O P T ext N sh
theorem Shelf'.add {N:Nat} {ext:Nat → Option (List Value → M Value)} {sh:a2i} (L:Shelf' P T vs N ext sh) {f:Nat} {g:List Value → M Value} (hg:a0f P T vs f g):Shelf' P T vs N (a0H ext f g) (a2h sh f g):=
 ⟨a8I L.e hg,c4n L.s f g⟩
theorem b0h (sh:a2i) (n f:Nat) (aS9:List Value) {q:j5 → List Value → M CR} (h:sh.get f=some q):J9 sh (n + 1) f aS9=q (J9 sh n) aS9:=by
 show M.obind (sh.get f) (fun g=>g (J9 sh n) aS9)=_
 rw [h]; rfl
theorem a8x (sh:a2i) (n f:Nat) (aS9:List Value) {g:List Value → M Value} (h:sh.get f=some (arX g)):J9 sh (n + 1) f aS9=M.bind (g aS9) fun v=>M.pure (.ret v):=b0h sh n f aS9 h
theorem a5P (sh:a2i) (n f:Nat) (aS9:List Value) {g:List Value → Option Value} {v:Value} (h:sh.get f=some (arX fun aS9=>M.lift (g aS9))) (e:g aS9=some v):J9 sh (n + 1) f aS9=M.pure (.ret v):=by
 rw [a8x sh n f aS9 h,e]; rfl
end
end Go.V
end
section
noncomputable section
namespace Go.V
section
variable (p:Program) (T:Tab)
theorem b2m {op:BinOp} {t:TypeId} {x y:Operand} {k:IntKind} {n m:Nat} {v:Value} (h1:a6c op k n m=none) (h2:b1R op k (.ofNat n) (.ofNat m)=none) (h3:b5A op k n m=some v):a4r p T op t x y (.int k (.ofNat n)) (.int k (.ofNat m))=M.pure v:=by
 have hk:a2Y k k=true:=by cases k <;> rfl
 have:a5n op k k (.ofNat n) (.ofNat m)=some v:=by
  unfold a5n; simp only [a6J,h1,hk,h2,h3]
 unfold a4r; simp only [this]
theorem b6N (k:IntKind) (n:Nat) (h:n < I7 k):a1d k (.ofNat n)=.ofNat n:=by
 unfold a1d
 simp only [I5 h]
theorem b2C (t:TypeId) (x y:Operand) (k:IntKind) (n m:Nat) (h:n < I7 k):a4r p T .quo t x y (.int k (.ofNat n)) (.int k (.ofNat (m + 1)))=M.pure (.int k (.ofNat (n / (m + 1)))):=by
 refine b2m p T rfl rfl ?_
 show some (Value.int k (a1d k (.ofNat (n / (m + 1)))))=_
 rw [b6N _ _ (Nat.lt_of_le_of_lt (Nat.div_le_self _ _) h)]
theorem b2l (t:TypeId) (x y:Operand) (k:IntKind) (n m:Nat):a4r p T .rem t x y (.int k (.ofNat n)) (.int k (.ofNat (m + 1)))=M.pure (.int k (.ofNat (n % (m + 1)))):=b2m p T rfl rfl rfl
theorem b0q (t:TypeId) (x y:Operand) (k:IntKind) (n m:Nat) (hk:I7 k=2 ^ k.bits) (h1:n < I7 k) (h2:m < I7 k):a4r p T .and t x y (.int k (.ofNat n)) (.int k (.ofNat m))=M.pure (.int k (.ofNat (Nat.land n m))):=by
 refine b2m p T rfl rfl ?_
 show some (Value.int k (a1d k (.ofNat (Nat.land (Nat.mod n (Nat.pow 2 k.bits)) (Nat.mod m (Nat.pow 2 k.bits))))))=_
 have e1:Nat.mod n (Nat.pow 2 k.bits)=n:=Nat.mod_eq_of_lt (by rw [← show (2:Nat) ^ k.bits=Nat.pow 2 k.bits from rfl, ← hk]; exact h1)
 have e2:Nat.mod m (Nat.pow 2 k.bits)=m:=Nat.mod_eq_of_lt (by rw [← show (2:Nat) ^ k.bits=Nat.pow 2 k.bits from rfl, ← hk]; exact h2)
 rw [e1,e2,b6N]
 exact Nat.lt_of_le_of_lt Nat.and_le_left h1
theorem a5T (t:TypeId) (x y:Operand) (k k':IntKind) (n m:Nat) (h:m ≤ k.bits):a4r p T .shl t x y (.int k (.ofNat n)) (.int k' (.ofNat m))=M.pure (.int k (a1d k (.ofNat (n * 2 ^ m)))):=by
 have e:a5n .shl k k' (.ofNat n) (.ofNat m)=some (.int k (a1d k (.ofNat (n * 2 ^ m)))):=by
  have e1:a6c .shl k n m=some (.int k (a1d k (.ofNat (n * 2 ^ m)))):=by
   show some (Value.int k (a1d k (.ofNat (Nat.mul n (Nat.pow 2 (a9i k m))))))=_
   unfold a9i
   rw [b0l h]
   rfl
  unfold a5n
  simp only [a6J,e1]
 unfold a4r; simp only [e]
theorem d0G (k k':IntKind) (z:Int) (m:Nat) (h:m ≤ k.bits):a3e p (Op.shift .shr k z k' (.ofNat m))=some (.int k (z.fdiv (2 ^ m))):=by
 unfold Op.shift
 rw [if_neg (by simp only [Int.ofNat_eq_natCast]; omega)]
 simp only [Int.ofNat_eq_natCast,Int.toNat_natCast,Nat.min_eq_left h]
 rfl
theorem b7H (t:TypeId) (x y:Operand) (k k':IntKind) (z:Int) (m:Nat) (h:m ≤ k.bits):a4r p T .shr t x y (.int k z) (.int k' (.ofNat m))=M.pure (.int k (z.fdiv (2 ^ m))):=by
 cases z with
 | ofNat n=>
   have e:a5n .shr k k' (.ofNat n) (.ofNat m)=some (.int k (.ofNat (n / 2 ^ m))):=by
    have e1:a6c .shr k n m=some (.int k (.ofNat (n / 2 ^ m))):=by
     show some (Value.int k (.ofNat (Nat.div n (Nat.pow 2 (a9i k m)))))=_
     unfold a9i
     rw [b0l h]
     rfl
    unfold a5n
    simp only [a6J,e1]
   unfold a4r; simp only [e]
   have:(Int.ofNat n).fdiv (2 ^ m)=Int.ofNat (n / 2 ^ m):=by
    rw [show ((2:Int) ^ m)=((2 ^ m:Nat):Int) by simp,Int.fdiv_eq_ediv_of_nonneg _ (Int.natCast_nonneg _)]
    exact (Int.natCast_ediv n (2 ^ m)).symm
   rw [this]
 | negSucc n=>
   have e:a5n .shr k k' (.negSucc n) (.ofNat m)=none:=by
    unfold a5n
    show (match a2Y k k' with | true=>_ | false=>none)=none
    cases a2Y k k' <;> rfl
   unfold a4r; simp only [e]
   have hn:a9U T .shr t x y (.int k (.negSucc n)) (.int k' (.ofNat m))=none:=rfl
   unfold a8z
   rw [hn]
   simp only [show a0y 8 (Value.int k (.negSucc n))=true from rfl,show a0y 8 (Value.int k' (.ofNat m))=true from rfl,Bool.and_self,Q8]
   have k2:a3e p (do eqGuard .shr t x y (.int k (.negSucc n)) (.int k' (.ofNat m)); binOp .shr t (.int k (.negSucc n)) (.int k' (.ofNat m)))=some (.int k ((Int.negSucc n).fdiv (2 ^ m))):=by
    rw [a4T]
    have:a3e p (eqGuard .shr t x y (.int k (.negSucc n)) (.int k' (.ofNat m)))=some ():=rfl
    rw [this]
    exact d0G p k k' _ m h
   rw [k2]
   rfl
end
theorem b0B (s:ByteArray) (kl kh:IntKind) (l h:Nat) (e:l ≤ h) (e2:h ≤ M4 s.data.toList):a8P (.string s) (some (.int kl (.ofNat l))) (some (.int kh (.ofNat h)))=M.pure (.string ⟨⟨a6d (a3l s.data.toList l) (h - l)⟩⟩):=by
 show b1v s _ _=_
 unfold b1v
 simp only [a5Y,b4O,P7,b0l e,b0l e2,Bool.and_self,Q8,a3m]
theorem a7s (l:List Value) (i:Nat):a9z i (.tuple ⟨l⟩)=M.obind (a3s l i) M.pure:=Eq.trans rfl rfl
theorem b5o (t b:Bool) (x y:Value):O7 t (bcase b x y)=bcase b (O7 t x) (O7 t y):=by cases b <;> rfl
theorem b0D (t:Bool):O7 t undef=false:=Eq.trans rfl rfl
theorem b3J (b x:Bool):bcase b x false=(b && x):=by cases b <;> rfl
theorem b7A {β:Type} (b n:Bool) (x y u u' v:Value) (s:S) (f:Value → M β) (e:Option (β × S)):bcase b e (a3u (go (X0 (bcase b u x) (bcase (!b && n) y u') v) s) f)=bcase b e (a3u (go (X0 x (bcase n y u') v) s) f):=by cases b <;> rfl
theorem E9 {α:Type} (x y:List α):M4 (M6 x y)=M4 x + M4 y:=by rw [a0m,a0m,a0m,M7,List.length_append]
theorem b2Z (b c:Bool):X0 (.bool (!b)) (bcase b undef (.bool c)) (.bool false)=M.pure (.bool (!b && c)):=by cases b <;> rfl
theorem a7N (a b:Value):X0 (.bool true) a b=M.pure a:=Eq.trans rfl rfl
theorem a5o (a b:Value):X0 (.bool false) a b=M.pure b:=Eq.trans rfl rfl
theorem a6Q (b:Bool) (x y:Value):bcase b (CR.ret x) (CR.ret y)=.ret (bcase b x y):=by cases b <;> rfl
theorem a8m (b:Bool) (x y:List UInt8):bcase b (Value.string ⟨⟨x⟩⟩) (Value.string ⟨⟨y⟩⟩)=.string ⟨⟨bcase b x y⟩⟩:=by cases b <;> rfl
theorem b1T (b:Bool) (x y:Bool):bcase b (Value.bool x) (Value.bool y)=.bool (bcase b x y):=by cases b <;> rfl
theorem O4 (call:j5) (f:Nat) (vs:List Value):a2g call f vs=M.bind (call f vs) fun r=>a3Y r M.pure fun _=>M.fail:=Eq.trans rfl rfl
theorem D7 (F:List a3t):a4e [] F=true:=Eq.trans rfl rfl
theorem z8 (i j:Nat) (L:List (Nat × Nat)) (F:List a3t):a4e ((i,j) :: L) F=((match a3s F i with
 | some x=>match a3s F j with
   | some y=>b0O x y
   | none=>false
 | none=>false) && a4e L F):=q9 _ _ _
theorem D9 (a b c d:List Nat):b0O (a,b) (c,d)=(a3q b c && a3q b d && a3q d a):=Eq.trans rfl rfl
theorem w9 (m:List Nat):a3q [] m=true:=Eq.trans rfl rfl
theorem o8 (i:Nat) (l m:List Nat):a3q (i :: l) m=(!(a5b i m) && a3q l m):=q9 _ _ _
theorem o9 (l:List Nat):a3q l []=true:=by
 induction l with
 | nil=>rfl
 | cons i l ih=>rw [o8,ih]; rfl
theorem F5 (i:Nat):a5b i []=false:=Eq.trans rfl rfl
theorem D8 (i x:Nat) (m:List Nat):a5b i (x :: m)=match Nat.beq i x with
 | true=>true
 | false=>a5b i m:=Eq.trans rfl rfl
theorem a3g {sh:a2i} {f N:Nat} {q:Cb → Nat → j5 → Value → M CR} (h:sh.get f=some (ar1 (q X3 N))) (n:Nat) (a:Value):J9 sh (n + 1) f [a]=q G8 N (J9 sh n) a:=by rw [b0h sh n f _ h,b0V]; rfl
theorem a9y {sh:a2i} {f N:Nat} {q:Cb → Nat → j5 → Value → Value → M CR} (h:sh.get f=some (ar2 (q X3 N))) (n:Nat) (a b:Value):J9 sh (n + 1) f [a,b]=q G8 N (J9 sh n) a b:=by rw [b0h sh n f _ h,b0V]; rfl
end Go.V
end
