import Derived.Test.YtmomonnlmbljoaaGreatDoorRax
section
namespace Go.Proofs.YtmomonnlmbljoaaGreatDoor
open Go.V Go.Proofs
set_option maxRecDepth 1000000
theorem d8Y (mL:Int):I9 mL 7 0=true:=by kernel_rfl
theorem d8l (mL:Int):I9 mL 7 1=true:=by kernel_rfl
theorem d8h (mL:Int):I9 mL 7 2=true:=by kernel_rfl
theorem d8t (mL:Int):I9 mL 7 3=true:=by kernel_rfl
end Go.Proofs.YtmomonnlmbljoaaGreatDoor
end
