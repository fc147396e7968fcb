import Derived.Test.YtmomonnlmbljoaaGreatDoorRax
section
namespace Go.Proofs.YtmomonnlmbljoaaGreatDoor
open Go.V Go.Proofs
set_option maxRecDepth 1000000
theorem d5R (mL:Int):I9 mL 10 2=true:=by kernel_rfl
theorem d5S (mL:Int):I9 mL 10 3=true:=by kernel_rfl
end Go.Proofs.YtmomonnlmbljoaaGreatDoor
end
