import Derived.Test.YtmomonnlmbljoaaGreatDoorRax
section
namespace Go.Proofs.YtmomonnlmbljoaaGreatDoor
open Go.V Go.Proofs
set_option maxRecDepth 1000000
theorem d8x (mL:Int):I9 mL 1 0=true:=by kernel_rfl
theorem d7U (mL:Int):I9 mL 2 0=true:=by kernel_rfl
theorem d9t (mL:Int):I9 mL 2 1=true:=by kernel_rfl
theorem d9s (mL:Int):I9 mL 3 0=true:=by kernel_rfl
theorem d8P (mL:Int):I9 mL 3 1=true:=by kernel_rfl
theorem d8E (mL:Int):I9 mL 3 2=true:=by kernel_rfl
theorem d9n (mL:Int):I9 mL 4 0=true:=by kernel_rfl
theorem d8A (mL:Int):I9 mL 4 1=true:=by kernel_rfl
theorem d8N (mL:Int):I9 mL 4 2=true:=by kernel_rfl
theorem d9k (mL:Int):I9 mL 4 3=true:=by kernel_rfl
end Go.Proofs.YtmomonnlmbljoaaGreatDoor
end
