/-
  A part of a proof: the last text of the claim says what is proved, and under which conditions.
-/
import Derived.Test.YtmnmpmmpihimpaaGreatDoorM18
set_option linter.unusedSimpArgs false
set_option linter.unusedVariables false
set_option linter.unnecessarySimpa false
/- Printed by closed2.py. -/
namespace Go.Vm
open Go
set_option maxRecDepth 1000000
theorem Sr16 (p : List Fr → Bool) (sg : List Fr) : callC C0 SA4 TX.funs TX.prim 2000 9 Sa16 sg (fun v' sg' wd => ifK (veq v' Sv16) (ifK (Nat.beq wd 0) (p sg') false) false) = p sg := by kernel_rfl
theorem Ss16 : SaysT TX 9 Sa16 Sv16 := says_of_C SA4_ok (primAll_su num0 KX LX) cl_ok Sr16
end Go.Vm
