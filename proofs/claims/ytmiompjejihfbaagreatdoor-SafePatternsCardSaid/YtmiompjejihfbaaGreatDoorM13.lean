/-
  A part of a proof: the last text of the claim says what is proved, and under which conditions.
-/
import Derived.Test.YtmiompjejihfbaaGreatDoorM9
set_option linter.unusedSimpArgs false
set_option linter.unusedVariables false
set_option linter.unnecessarySimpa false
/- Printed by closed.py. -/
namespace Go.Vm
open Go
set_option maxRecDepth 1000000
theorem Sr33 (p : List Fr → Bool) (sg : List Fr) : callC C0 SA1 TX.funs TX.prim 2000 10 Sa33 sg (fun v' sg' wd => ifK (veq v' Sv33) (ifK (Nat.beq wd 0) (p sg') false) false) = p sg := by kernel_rfl
theorem Ss33 : SaysT TX 10 Sa33 Sv33 := says_of_C SA1_ok (primAll_su num0 KX LX) cl_ok Sr33
theorem Sr31 (p : List Fr → Bool) (sg : List Fr) : callC C0 SA1 TX.funs TX.prim 2000 10 Sa31 sg (fun v' sg' wd => ifK (veq v' Sv31) (ifK (Nat.beq wd 0) (p sg') false) false) = p sg := by kernel_rfl
theorem Ss31 : SaysT TX 10 Sa31 Sv31 := says_of_C SA1_ok (primAll_su num0 KX LX) cl_ok Sr31
theorem Sr35 (p : List Fr → Bool) (sg : List Fr) : callC C0 SA1 TX.funs TX.prim 2000 10 Sa35 sg (fun v' sg' wd => ifK (veq v' Sv35) (ifK (Nat.beq wd 0) (p sg') false) false) = p sg := by kernel_rfl
theorem Ss35 : SaysT TX 10 Sa35 Sv35 := says_of_C SA1_ok (primAll_su num0 KX LX) cl_ok Sr35
theorem Sr16 (p : List Fr → Bool) (sg : List Fr) : callC C0 SA1 TX.funs TX.prim 2000 10 Sa16 sg (fun v' sg' wd => ifK (veq v' Sv16) (ifK (Nat.beq wd 0) (p sg') false) false) = p sg := by kernel_rfl
theorem Ss16 : SaysT TX 10 Sa16 Sv16 := says_of_C SA1_ok (primAll_su num0 KX LX) cl_ok Sr16
theorem Sr21 (p : List Fr → Bool) (sg : List Fr) : callC C0 SA1 TX.funs TX.prim 2000 10 Sa21 sg (fun v' sg' wd => ifK (veq v' Sv21) (ifK (Nat.beq wd 0) (p sg') false) false) = p sg := by kernel_rfl
theorem Ss21 : SaysT TX 10 Sa21 Sv21 := says_of_C SA1_ok (primAll_su num0 KX LX) cl_ok Sr21
theorem Sr22 (p : List Fr → Bool) (sg : List Fr) : callC C0 SA1 TX.funs TX.prim 2000 10 Sa22 sg (fun v' sg' wd => ifK (veq v' Sv22) (ifK (Nat.beq wd 0) (p sg') false) false) = p sg := by kernel_rfl
theorem Ss22 : SaysT TX 10 Sa22 Sv22 := says_of_C SA1_ok (primAll_su num0 KX LX) cl_ok Sr22
theorem Sr12 (p : List Fr → Bool) (sg : List Fr) : callC C0 SA1 TX.funs TX.prim 2000 31 Sa12 sg (fun v' sg' wd => ifK (veq v' Sv12) (ifK (Nat.beq wd 0) (p sg') false) false) = p sg := by kernel_rfl
theorem Ss12 : SaysT TX 31 Sa12 Sv12 := says_of_C SA1_ok (primAll_su num0 KX LX) cl_ok Sr12
end Go.Vm
