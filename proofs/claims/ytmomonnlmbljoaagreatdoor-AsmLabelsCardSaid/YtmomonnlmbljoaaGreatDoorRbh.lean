import Derived.Test.YtmomonnlmbljoaaGreatDoorRax
section
namespace Go.Proofs.YtmomonnlmbljoaaGreatDoor
open Go.V Go.Proofs
set_option maxRecDepth 1000000
theorem d9h (mL:Int):I9 mL 8 4=true:=by kernel_rfl
theorem d7P (mL:Int):I9 mL 8 5=true:=by kernel_rfl
theorem d9f (mL:Int):I9 mL 8 6=true:=by kernel_rfl
theorem d8U (mL:Int):I9 mL 8 7=true:=by kernel_rfl
end Go.Proofs.YtmomonnlmbljoaaGreatDoor
end
