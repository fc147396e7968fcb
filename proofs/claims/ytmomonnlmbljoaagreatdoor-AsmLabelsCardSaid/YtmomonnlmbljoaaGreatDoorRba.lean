import Derived.Test.YtmomonnlmbljoaaGreatDoorRax
section
namespace Go.Proofs.YtmomonnlmbljoaaGreatDoor
open Go.V Go.Proofs
set_option maxRecDepth 1000000
theorem d4L (mL:Int):I9 mL 10 4=true:=by kernel_rfl
theorem d4f (mL:Int):I9 mL 10 5=true:=by kernel_rfl
end Go.Proofs.YtmomonnlmbljoaaGreatDoor
end
