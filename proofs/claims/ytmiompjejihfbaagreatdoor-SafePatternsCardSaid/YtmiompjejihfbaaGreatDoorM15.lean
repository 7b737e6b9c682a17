/-
  A part of a proof: the last text of the claim says what is proved, and under which conditions.
-/
import Derived.Test.YtmiompjejihfbaaGreatDoorM14
set_option linter.unusedSimpArgs false
set_option linter.unusedVariables false
set_option linter.unnecessarySimpa false
/- Printed by closed.py. -/
namespace Go.Vm
open Go
set_option maxRecDepth 1000000
theorem Sr11 (p : List Fr → Bool) (sg : List Fr) : callC C0 SA2 TX.funs TX.prim 2000 5 Sa11 sg (fun v' sg' wd => ifK (veq v' Sv11) (ifK (Nat.beq wd 0) (p sg') false) false) = p sg := by kernel_rfl
theorem Ss11 : SaysT TX 5 Sa11 Sv11 := says_of_C SA2_ok (primAll_su num0 KX LX) cl_ok Sr11
theorem Sr32 (p : List Fr → Bool) (sg : List Fr) : callC C0 SA2 TX.funs TX.prim 2000 5 Sa32 sg (fun v' sg' wd => ifK (veq v' Sv32) (ifK (Nat.beq wd 0) (p sg') false) false) = p sg := by kernel_rfl
theorem Ss32 : SaysT TX 5 Sa32 Sv32 := says_of_C SA2_ok (primAll_su num0 KX LX) cl_ok Sr32
theorem Sr42 (p : List Fr → Bool) (sg : List Fr) : callC C0 SA2 TX.funs TX.prim 2000 5 Sa42 sg (fun v' sg' wd => ifK (veq v' Sv42) (ifK (Nat.beq wd 0) (p sg') false) false) = p sg := by kernel_rfl
theorem Ss42 : SaysT TX 5 Sa42 Sv42 := says_of_C SA2_ok (primAll_su num0 KX LX) cl_ok Sr42
theorem Sr20 (p : List Fr → Bool) (sg : List Fr) : callC C0 SA2 TX.funs TX.prim 2000 5 Sa20 sg (fun v' sg' wd => ifK (veq v' Sv20) (ifK (Nat.beq wd 0) (p sg') false) false) = p sg := by kernel_rfl
theorem Ss20 : SaysT TX 5 Sa20 Sv20 := says_of_C SA2_ok (primAll_su num0 KX LX) cl_ok Sr20
theorem Sr28 (p : List Fr → Bool) (sg : List Fr) : callC C0 SA2 TX.funs TX.prim 2000 5 Sa28 sg (fun v' sg' wd => ifK (veq v' Sv28) (ifK (Nat.beq wd 0) (p sg') false) false) = p sg := by kernel_rfl
theorem Ss28 : SaysT TX 5 Sa28 Sv28 := says_of_C SA2_ok (primAll_su num0 KX LX) cl_ok Sr28
theorem Sr30 (p : List Fr → Bool) (sg : List Fr) : callC C0 SA2 TX.funs TX.prim 2000 5 Sa30 sg (fun v' sg' wd => ifK (veq v' Sv30) (ifK (Nat.beq wd 0) (p sg') false) false) = p sg := by kernel_rfl
theorem Ss30 : SaysT TX 5 Sa30 Sv30 := says_of_C SA2_ok (primAll_su num0 KX LX) cl_ok Sr30
end Go.Vm
