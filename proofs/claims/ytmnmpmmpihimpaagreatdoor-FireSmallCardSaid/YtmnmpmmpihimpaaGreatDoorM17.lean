/-
  A part of a proof: the last text of the claim says what is proved, and under which conditions.
-/
import Derived.Test.YtmnmpmmpihimpaaGreatDoorM16
set_option linter.unusedSimpArgs false
set_option linter.unusedVariables false
set_option linter.unnecessarySimpa false
/- Printed by closed2.py. -/
namespace Go.Vm
open Go
set_option maxRecDepth 1000000
theorem Sr14 (p : List Fr → Bool) (sg : List Fr) : callC C0 SA3 TX.funs TX.prim 2000 7 Sa14 sg (fun v' sg' wd => ifK (veq v' Sv14) (ifK (Nat.beq wd 0) (p sg') false) false) = p sg := by kernel_rfl
theorem Ss14 : SaysT TX 7 Sa14 Sv14 := says_of_C SA3_ok (primAll_su num0 KX LX) cl_ok Sr14
theorem Sr11 (p : List Fr → Bool) (sg : List Fr) : callC C0 SA3 TX.funs TX.prim 2000 7 Sa11 sg (fun v' sg' wd => ifK (veq v' Sv11) (ifK (Nat.beq wd 0) (p sg') false) false) = p sg := by kernel_rfl
theorem Ss11 : SaysT TX 7 Sa11 Sv11 := says_of_C SA3_ok (primAll_su num0 KX LX) cl_ok Sr11
theorem Sr15 (p : List Fr → Bool) (sg : List Fr) : callC C0 SA3 TX.funs TX.prim 2000 7 Sa15 sg (fun v' sg' wd => ifK (veq v' Sv15) (ifK (Nat.beq wd 0) (p sg') false) false) = p sg := by kernel_rfl
theorem Ss15 : SaysT TX 7 Sa15 Sv15 := says_of_C SA3_ok (primAll_su num0 KX LX) cl_ok Sr15
end Go.Vm
