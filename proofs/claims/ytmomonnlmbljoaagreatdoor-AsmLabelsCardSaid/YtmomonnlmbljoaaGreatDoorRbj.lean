import Derived.Test.YtmomonnlmbljoaaGreatDoorRax
section
namespace Go.Proofs.YtmomonnlmbljoaaGreatDoor
open Go.V Go.Proofs
set_option maxRecDepth 1000000
theorem d9e (mL:Int):I9 mL 7 4=true:=by kernel_rfl
theorem d8H (mL:Int):I9 mL 7 5=true:=by kernel_rfl
theorem d8d (mL:Int):I9 mL 7 6=true:=by kernel_rfl
end Go.Proofs.YtmomonnlmbljoaaGreatDoor
end
