import Derived.Test.YtmomonnlmbljoaaGreatDoorRax
section
namespace Go.Proofs.YtmomonnlmbljoaaGreatDoor
open Go.V Go.Proofs
set_option maxRecDepth 1000000
theorem d4q (mL:Int):I9 mL 10 0=true:=by kernel_rfl
theorem d3a (mL:Int):I9 mL 10 1=true:=by kernel_rfl
end Go.Proofs.YtmomonnlmbljoaaGreatDoor
end
