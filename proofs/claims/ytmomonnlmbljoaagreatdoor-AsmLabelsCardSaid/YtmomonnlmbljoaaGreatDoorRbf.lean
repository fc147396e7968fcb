import Derived.Test.YtmomonnlmbljoaaGreatDoorRax
section
namespace Go.Proofs.YtmomonnlmbljoaaGreatDoor
open Go.V Go.Proofs
set_option maxRecDepth 1000000
theorem d8W (mL:Int):I9 mL 9 6=true:=by kernel_rfl
theorem d7H (mL:Int):I9 mL 9 7=true:=by kernel_rfl
theorem d7G (mL:Int):I9 mL 9 8=true:=by kernel_rfl
end Go.Proofs.YtmomonnlmbljoaaGreatDoor
end
