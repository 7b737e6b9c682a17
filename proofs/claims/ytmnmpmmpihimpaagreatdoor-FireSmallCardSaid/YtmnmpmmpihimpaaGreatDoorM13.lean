/-
  A part of a proof: the last text of the claim says what is proved, and under which conditions.
-/
import Derived.Test.YtmnmpmmpihimpaaGreatDoorM12
set_option linter.unusedSimpArgs false
set_option linter.unusedVariables false
set_option linter.unnecessarySimpa false
/- Printed by closed2.py. -/
namespace Go.Vm
open Go
set_option maxRecDepth 1000000
theorem Sr2 (p : List Fr → Bool) (sg : List Fr) : callC C0 SA1 TX.funs TX.prim 2000 12 Sa2 sg (fun v' sg' wd => ifK (veq v' Sv2) (ifK (Nat.beq wd 0) (p sg') false) false) = p sg := by kernel_rfl
theorem Ss2 : SaysT TX 12 Sa2 Sv2 := says_of_C SA1_ok (primAll_su num0 KX LX) cl_ok Sr2
theorem Sr8 (p : List Fr → Bool) (sg : List Fr) : callC C0 SA1 TX.funs TX.prim 2000 95 Sa8 sg (fun v' sg' wd => ifK (veq v' Sv8) (ifK (Nat.beq wd 0) (p sg') false) false) = p sg := by kernel_rfl
theorem Ss8 : SaysT TX 95 Sa8 Sv8 := says_of_C SA1_ok (primAll_su num0 KX LX) cl_ok Sr8
theorem Sr17 (p : List Fr → Bool) (sg : List Fr) : callC C0 SA1 TX.funs TX.prim 2000 95 Sa17 sg (fun v' sg' wd => ifK (veq v' Sv17) (ifK (Nat.beq wd 0) (p sg') false) false) = p sg := by kernel_rfl
theorem Ss17 : SaysT TX 95 Sa17 Sv17 := says_of_C SA1_ok (primAll_su num0 KX LX) cl_ok Sr17
end Go.Vm
