import Derived.Test.YtmomonnlmbljoaaGreatDoorRax
section
namespace Go.Proofs.YtmomonnlmbljoaaGreatDoor
open Go.V Go.Proofs
set_option maxRecDepth 1000000
theorem d7Y (mL:Int):I9 mL 8 0=true:=by kernel_rfl
theorem d8z (mL:Int):I9 mL 8 1=true:=by kernel_rfl
theorem d9q (mL:Int):I9 mL 8 2=true:=by kernel_rfl
theorem d7W (mL:Int):I9 mL 8 3=true:=by kernel_rfl
end Go.Proofs.YtmomonnlmbljoaaGreatDoor
end
