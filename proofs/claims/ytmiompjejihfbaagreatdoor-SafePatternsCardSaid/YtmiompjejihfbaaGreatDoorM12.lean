/-
  A part of a proof: the last text of the claim says what is proved, and under which conditions.
-/
import Derived.Test.YtmiompjejihfbaaGreatDoorM9
set_option linter.unusedSimpArgs false
set_option linter.unusedVariables false
set_option linter.unnecessarySimpa false
/- Printed by closed.py. -/
namespace Go.Vm
open Go
set_option maxRecDepth 1000000
theorem Sr23 (p : List Fr → Bool) (sg : List Fr) : callC C0 SA1 TX.funs TX.prim 2000 10 Sa23 sg (fun v' sg' wd => ifK (veq v' Sv23) (ifK (Nat.beq wd 0) (p sg') false) false) = p sg := by kernel_rfl
theorem Ss23 : SaysT TX 10 Sa23 Sv23 := says_of_C SA1_ok (primAll_su num0 KX LX) cl_ok Sr23
theorem Sr43 (p : List Fr → Bool) (sg : List Fr) : callC C0 SA1 TX.funs TX.prim 2000 10 Sa43 sg (fun v' sg' wd => ifK (veq v' Sv43) (ifK (Nat.beq wd 0) (p sg') false) false) = p sg := by kernel_rfl
theorem Ss43 : SaysT TX 10 Sa43 Sv43 := says_of_C SA1_ok (primAll_su num0 KX LX) cl_ok Sr43
theorem Sr27 (p : List Fr → Bool) (sg : List Fr) : callC C0 SA1 TX.funs TX.prim 2000 10 Sa27 sg (fun v' sg' wd => ifK (veq v' Sv27) (ifK (Nat.beq wd 0) (p sg') false) false) = p sg := by kernel_rfl
theorem Ss27 : SaysT TX 10 Sa27 Sv27 := says_of_C SA1_ok (primAll_su num0 KX LX) cl_ok Sr27
theorem Sr29 (p : List Fr → Bool) (sg : List Fr) : callC C0 SA1 TX.funs TX.prim 2000 10 Sa29 sg (fun v' sg' wd => ifK (veq v' Sv29) (ifK (Nat.beq wd 0) (p sg') false) false) = p sg := by kernel_rfl
theorem Ss29 : SaysT TX 10 Sa29 Sv29 := says_of_C SA1_ok (primAll_su num0 KX LX) cl_ok Sr29
theorem Sr45 (p : List Fr → Bool) (sg : List Fr) : callC C0 SA1 TX.funs TX.prim 2000 10 Sa45 sg (fun v' sg' wd => ifK (veq v' Sv45) (ifK (Nat.beq wd 0) (p sg') false) false) = p sg := by kernel_rfl
theorem Ss45 : SaysT TX 10 Sa45 Sv45 := says_of_C SA1_ok (primAll_su num0 KX LX) cl_ok Sr45
theorem Sr9 (p : List Fr → Bool) (sg : List Fr) : callC C0 SA1 TX.funs TX.prim 2000 10 Sa9 sg (fun v' sg' wd => ifK (veq v' Sv9) (ifK (Nat.beq wd 0) (p sg') false) false) = p sg := by kernel_rfl
theorem Ss9 : SaysT TX 10 Sa9 Sv9 := says_of_C SA1_ok (primAll_su num0 KX LX) cl_ok Sr9
theorem Sr39 (p : List Fr → Bool) (sg : List Fr) : callC C0 SA1 TX.funs TX.prim 2000 6 Sa39 sg (fun v' sg' wd => ifK (veq v' Sv39) (ifK (Nat.beq wd 0) (p sg') false) false) = p sg := by kernel_rfl
theorem Ss39 : SaysT TX 6 Sa39 Sv39 := says_of_C SA1_ok (primAll_su num0 KX LX) cl_ok Sr39
end Go.Vm
