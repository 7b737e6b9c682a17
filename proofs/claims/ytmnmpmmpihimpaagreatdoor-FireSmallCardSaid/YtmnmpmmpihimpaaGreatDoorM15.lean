/-
  A part of a proof: the last text of the claim says what is proved, and under which conditions.
-/
import Derived.Test.YtmnmpmmpihimpaaGreatDoorM14
set_option linter.unusedSimpArgs false
set_option linter.unusedVariables false
set_option linter.unnecessarySimpa false
/- Printed by closed2.py. -/
namespace Go.Vm
open Go
set_option maxRecDepth 1000000
theorem Sr7 (p : List Fr → Bool) (sg : List Fr) : callC C0 SA2 TX.funs TX.prim 2000 6 Sa7 sg (fun v' sg' wd => ifK (veq v' Sv7) (ifK (Nat.beq wd 0) (p sg') false) false) = p sg := by kernel_rfl
theorem Ss7 : SaysT TX 6 Sa7 Sv7 := says_of_C SA2_ok (primAll_su num0 KX LX) cl_ok Sr7
theorem Sr13 (p : List Fr → Bool) (sg : List Fr) : callC C0 SA2 TX.funs TX.prim 2000 337 Sa13 sg (fun v' sg' wd => ifK (veq v' Sv13) (ifK (Nat.beq wd 0) (p sg') false) false) = p sg := by kernel_rfl
theorem Ss13 : SaysT TX 337 Sa13 Sv13 := says_of_C SA2_ok (primAll_su num0 KX LX) cl_ok Sr13
theorem Sr12 (p : List Fr → Bool) (sg : List Fr) : callC C0 SA2 TX.funs TX.prim 2000 337 Sa12 sg (fun v' sg' wd => ifK (veq v' Sv12) (ifK (Nat.beq wd 0) (p sg') false) false) = p sg := by kernel_rfl
theorem Ss12 : SaysT TX 337 Sa12 Sv12 := says_of_C SA2_ok (primAll_su num0 KX LX) cl_ok Sr12
theorem Sr9 (p : List Fr → Bool) (sg : List Fr) : callC C0 SA2 TX.funs TX.prim 2000 28 Sa9 sg (fun v' sg' wd => ifK (veq v' Sv9) (ifK (Nat.beq wd 0) (p sg') false) false) = p sg := by kernel_rfl
theorem Ss9 : SaysT TX 28 Sa9 Sv9 := says_of_C SA2_ok (primAll_su num0 KX LX) cl_ok Sr9
theorem Sr18 (p : List Fr → Bool) (sg : List Fr) : callC C0 SA2 TX.funs TX.prim 2000 28 Sa18 sg (fun v' sg' wd => ifK (veq v' Sv18) (ifK (Nat.beq wd 0) (p sg') false) false) = p sg := by kernel_rfl
theorem Ss18 : SaysT TX 28 Sa18 Sv18 := says_of_C SA2_ok (primAll_su num0 KX LX) cl_ok Sr18
end Go.Vm
