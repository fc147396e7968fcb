import Derived.Test.YtmomonnlmbljoaaGreatDoorRax
section
namespace Go.Proofs.YtmomonnlmbljoaaGreatDoor
open Go.V Go.Proofs
set_option maxRecDepth 1000000
theorem d4E (mL:Int):I9 mL 10 6=true:=by kernel_rfl
theorem d4y (mL:Int):I9 mL 10 7=true:=by kernel_rfl
end Go.Proofs.YtmomonnlmbljoaaGreatDoor
end
