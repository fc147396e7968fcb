import Derived.Test.YtmomonnlmbljoaaGreatDoorRax
section
namespace Go.Proofs.YtmomonnlmbljoaaGreatDoor
open Go.V Go.Proofs
set_option maxRecDepth 1000000
theorem d7X (mL:Int):I9 mL 5 0=true:=by kernel_rfl
theorem d9l (mL:Int):I9 mL 5 1=true:=by kernel_rfl
theorem d9u (mL:Int):I9 mL 5 2=true:=by kernel_rfl
theorem d9r (mL:Int):I9 mL 5 3=true:=by kernel_rfl
theorem d8s (mL:Int):I9 mL 5 4=true:=by kernel_rfl
end Go.Proofs.YtmomonnlmbljoaaGreatDoor
end
