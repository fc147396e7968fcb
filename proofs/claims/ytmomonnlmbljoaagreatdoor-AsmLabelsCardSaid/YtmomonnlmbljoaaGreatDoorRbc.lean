import Derived.Test.YtmomonnlmbljoaaGreatDoorRax
section
namespace Go.Proofs.YtmomonnlmbljoaaGreatDoor
open Go.V Go.Proofs
set_option maxRecDepth 1000000
theorem d4M (mL:Int):I9 mL 10 8=true:=by kernel_rfl
theorem d5c (mL:Int):I9 mL 10 9=true:=by kernel_rfl
end Go.Proofs.YtmomonnlmbljoaaGreatDoor
end
