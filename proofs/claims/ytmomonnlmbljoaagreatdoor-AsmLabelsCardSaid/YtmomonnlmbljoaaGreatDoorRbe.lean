import Derived.Test.YtmomonnlmbljoaaGreatDoorRax
section
namespace Go.Proofs.YtmomonnlmbljoaaGreatDoor
open Go.V Go.Proofs
set_option maxRecDepth 1000000
theorem d8p (mL:Int):I9 mL 9 3=true:=by kernel_rfl
theorem d7O (mL:Int):I9 mL 9 4=true:=by kernel_rfl
theorem d8M (mL:Int):I9 mL 9 5=true:=by kernel_rfl
end Go.Proofs.YtmomonnlmbljoaaGreatDoor
end
