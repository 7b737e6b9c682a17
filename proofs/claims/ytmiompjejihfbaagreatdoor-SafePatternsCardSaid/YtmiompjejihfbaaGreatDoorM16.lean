/-
  A part of a proof: the last text of the claim says what is proved, and under which conditions.
-/
import Derived.Test.YtmiompjejihfbaaGreatDoorM14
set_option linter.unusedSimpArgs false
set_option linter.unusedVariables false
set_option linter.unnecessarySimpa false
/- Printed by closed.py. -/
namespace Go.Vm
open Go
set_option maxRecDepth 1000000
theorem Sr13 (p : List Fr → Bool) (sg : List Fr) : callC C0 SA2 TX.funs TX.prim 2000 6 Sa13 sg (fun v' sg' wd => ifK (veq v' Sv13) (ifK (Nat.beq wd 0) (p sg') false) false) = p sg := by kernel_rfl
theorem Ss13 : SaysT TX 6 Sa13 Sv13 := says_of_C SA2_ok (primAll_su num0 KX LX) cl_ok Sr13
theorem Sr34 (p : List Fr → Bool) (sg : List Fr) : callC C0 SA2 TX.funs TX.prim 2000 5 Sa34 sg (fun v' sg' wd => ifK (veq v' Sv34) (ifK (Nat.beq wd 0) (p sg') false) false) = p sg := by kernel_rfl
theorem Ss34 : SaysT TX 5 Sa34 Sv34 := says_of_C SA2_ok (primAll_su num0 KX LX) cl_ok Sr34
theorem Sr25 (p : List Fr → Bool) (sg : List Fr) : callC C0 SA2 TX.funs TX.prim 2000 5 Sa25 sg (fun v' sg' wd => ifK (veq v' Sv25) (ifK (Nat.beq wd 0) (p sg') false) false) = p sg := by kernel_rfl
theorem Ss25 : SaysT TX 5 Sa25 Sv25 := says_of_C SA2_ok (primAll_su num0 KX LX) cl_ok Sr25
theorem Sr44 (p : List Fr → Bool) (sg : List Fr) : callC C0 SA2 TX.funs TX.prim 2000 5 Sa44 sg (fun v' sg' wd => ifK (veq v' Sv44) (ifK (Nat.beq wd 0) (p sg') false) false) = p sg := by kernel_rfl
theorem Ss44 : SaysT TX 5 Sa44 Sv44 := says_of_C SA2_ok (primAll_su num0 KX LX) cl_ok Sr44
theorem Sr38 (p : List Fr → Bool) (sg : List Fr) : callC C0 SA2 TX.funs TX.prim 2000 5 Sa38 sg (fun v' sg' wd => ifK (veq v' Sv38) (ifK (Nat.beq wd 0) (p sg') false) false) = p sg := by kernel_rfl
theorem Ss38 : SaysT TX 5 Sa38 Sv38 := says_of_C SA2_ok (primAll_su num0 KX LX) cl_ok Sr38
theorem Sr18 (p : List Fr → Bool) (sg : List Fr) : callC C0 SA2 TX.funs TX.prim 2000 5 Sa18 sg (fun v' sg' wd => ifK (veq v' Sv18) (ifK (Nat.beq wd 0) (p sg') false) false) = p sg := by kernel_rfl
theorem Ss18 : SaysT TX 5 Sa18 Sv18 := says_of_C SA2_ok (primAll_su num0 KX LX) cl_ok Sr18
theorem Sr36 (p : List Fr → Bool) (sg : List Fr) : callC C0 SA2 TX.funs TX.prim 2000 5 Sa36 sg (fun v' sg' wd => ifK (veq v' Sv36) (ifK (Nat.beq wd 0) (p sg') false) false) = p sg := by kernel_rfl
theorem Ss36 : SaysT TX 5 Sa36 Sv36 := says_of_C SA2_ok (primAll_su num0 KX LX) cl_ok Sr36
theorem Sr47 (p : List Fr → Bool) (sg : List Fr) : callC C0 SA2 TX.funs TX.prim 2000 5 Sa47 sg (fun v' sg' wd => ifK (veq v' Sv47) (ifK (Nat.beq wd 0) (p sg') false) false) = p sg := by kernel_rfl
theorem Ss47 : SaysT TX 5 Sa47 Sv47 := says_of_C SA2_ok (primAll_su num0 KX LX) cl_ok Sr47
end Go.Vm
