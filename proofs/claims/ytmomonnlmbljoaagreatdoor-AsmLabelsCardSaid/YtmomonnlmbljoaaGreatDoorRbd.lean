import Derived.Test.YtmomonnlmbljoaaGreatDoorRax
section
namespace Go.Proofs.YtmomonnlmbljoaaGreatDoor
open Go.V Go.Proofs
set_option maxRecDepth 1000000
theorem d8u (mL:Int):I9 mL 9 0=true:=by kernel_rfl
theorem d8R (mL:Int):I9 mL 9 1=true:=by kernel_rfl
theorem d8O (mL:Int):I9 mL 9 2=true:=by kernel_rfl
end Go.Proofs.YtmomonnlmbljoaaGreatDoor
end
