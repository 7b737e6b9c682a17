/-
  A part of a proof: the last text of the claim says what is proved, and under which conditions.
-/
import Derived.Test.YtmiompjejihfbaaGreatDoorM9
set_option linter.unusedSimpArgs false
set_option linter.unusedVariables false
set_option linter.unnecessarySimpa false
/- Printed by closed.py. -/
namespace Go.Vm
open Go
set_option maxRecDepth 1000000
theorem Sr10 (p : List Fr → Bool) (sg : List Fr) : callC C0 SA1 TX.funs TX.prim 2000 10 Sa10 sg (fun v' sg' wd => ifK (veq v' Sv10) (ifK (Nat.beq wd 0) (p sg') false) false) = p sg := by kernel_rfl
theorem Ss10 : SaysT TX 10 Sa10 Sv10 := says_of_C SA1_ok (primAll_su num0 KX LX) cl_ok Sr10
theorem Sr37 (p : List Fr → Bool) (sg : List Fr) : callC C0 SA1 TX.funs TX.prim 2000 10 Sa37 sg (fun v' sg' wd => ifK (veq v' Sv37) (ifK (Nat.beq wd 0) (p sg') false) false) = p sg := by kernel_rfl
theorem Ss37 : SaysT TX 10 Sa37 Sv37 := says_of_C SA1_ok (primAll_su num0 KX LX) cl_ok Sr37
theorem Sr8 (p : List Fr → Bool) (sg : List Fr) : callC C0 SA1 TX.funs TX.prim 2000 10 Sa8 sg (fun v' sg' wd => ifK (veq v' Sv8) (ifK (Nat.beq wd 0) (p sg') false) false) = p sg := by kernel_rfl
theorem Ss8 : SaysT TX 10 Sa8 Sv8 := says_of_C SA1_ok (primAll_su num0 KX LX) cl_ok Sr8
theorem Sr3 (p : List Fr → Bool) (sg : List Fr) : callC C0 SA1 TX.funs TX.prim 2000 10 Sa3 sg (fun v' sg' wd => ifK (veq v' Sv3) (ifK (Nat.beq wd 0) (p sg') false) false) = p sg := by kernel_rfl
theorem Ss3 : SaysT TX 10 Sa3 Sv3 := says_of_C SA1_ok (primAll_su num0 KX LX) cl_ok Sr3
theorem Sr24 (p : List Fr → Bool) (sg : List Fr) : callC C0 SA1 TX.funs TX.prim 2000 141 Sa24 sg (fun v' sg' wd => ifK (veq v' Sv24) (ifK (Nat.beq wd 0) (p sg') false) false) = p sg := by kernel_rfl
theorem Ss24 : SaysT TX 141 Sa24 Sv24 := says_of_C SA1_ok (primAll_su num0 KX LX) cl_ok Sr24
end Go.Vm
