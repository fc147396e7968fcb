import Derived.Test.YtmomonnlmbljoaaGreatDoorRax
section
namespace Go.Proofs.YtmomonnlmbljoaaGreatDoor
open Go.V Go.Proofs
set_option maxRecDepth 1000000
theorem d8C (mL:Int):I9 mL 6 0=true:=by kernel_rfl
theorem d8r (mL:Int):I9 mL 6 1=true:=by kernel_rfl
theorem d8a (mL:Int):I9 mL 6 2=true:=by kernel_rfl
theorem d8F (mL:Int):I9 mL 6 3=true:=by kernel_rfl
theorem d7L (mL:Int):I9 mL 6 4=true:=by kernel_rfl
theorem d7S (mL:Int):I9 mL 6 5=true:=by kernel_rfl
end Go.Proofs.YtmomonnlmbljoaaGreatDoor
end
