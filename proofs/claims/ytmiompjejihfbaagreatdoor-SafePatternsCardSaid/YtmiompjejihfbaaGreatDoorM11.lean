/-
  A part of a proof: the last text of the claim says what is proved, and under which conditions.
-/
import Derived.Test.YtmiompjejihfbaaGreatDoorM9
set_option linter.unusedSimpArgs false
set_option linter.unusedVariables false
set_option linter.unnecessarySimpa false
/- Printed by closed.py. -/
namespace Go.Vm
open Go
set_option maxRecDepth 1000000
theorem Sr40 (p : List Fr → Bool) (sg : List Fr) : callC C0 SA1 TX.funs TX.prim 2000 10 Sa40 sg (fun v' sg' wd => ifK (veq v' Sv40) (ifK (Nat.beq wd 0) (p sg') false) false) = p sg := by kernel_rfl
theorem Ss40 : SaysT TX 10 Sa40 Sv40 := says_of_C SA1_ok (primAll_su num0 KX LX) cl_ok Sr40
theorem Sr17 (p : List Fr → Bool) (sg : List Fr) : callC C0 SA1 TX.funs TX.prim 2000 10 Sa17 sg (fun v' sg' wd => ifK (veq v' Sv17) (ifK (Nat.beq wd 0) (p sg') false) false) = p sg := by kernel_rfl
theorem Ss17 : SaysT TX 10 Sa17 Sv17 := says_of_C SA1_ok (primAll_su num0 KX LX) cl_ok Sr17
theorem Sr19 (p : List Fr → Bool) (sg : List Fr) : callC C0 SA1 TX.funs TX.prim 2000 10 Sa19 sg (fun v' sg' wd => ifK (veq v' Sv19) (ifK (Nat.beq wd 0) (p sg') false) false) = p sg := by kernel_rfl
theorem Ss19 : SaysT TX 10 Sa19 Sv19 := says_of_C SA1_ok (primAll_su num0 KX LX) cl_ok Sr19
theorem Sr46 (p : List Fr → Bool) (sg : List Fr) : callC C0 SA1 TX.funs TX.prim 2000 10 Sa46 sg (fun v' sg' wd => ifK (veq v' Sv46) (ifK (Nat.beq wd 0) (p sg') false) false) = p sg := by kernel_rfl
theorem Ss46 : SaysT TX 10 Sa46 Sv46 := says_of_C SA1_ok (primAll_su num0 KX LX) cl_ok Sr46
theorem Sr15 (p : List Fr → Bool) (sg : List Fr) : callC C0 SA1 TX.funs TX.prim 2000 10 Sa15 sg (fun v' sg' wd => ifK (veq v' Sv15) (ifK (Nat.beq wd 0) (p sg') false) false) = p sg := by kernel_rfl
theorem Ss15 : SaysT TX 10 Sa15 Sv15 := says_of_C SA1_ok (primAll_su num0 KX LX) cl_ok Sr15
theorem Sr26 (p : List Fr → Bool) (sg : List Fr) : callC C0 SA1 TX.funs TX.prim 2000 10 Sa26 sg (fun v' sg' wd => ifK (veq v' Sv26) (ifK (Nat.beq wd 0) (p sg') false) false) = p sg := by kernel_rfl
theorem Ss26 : SaysT TX 10 Sa26 Sv26 := says_of_C SA1_ok (primAll_su num0 KX LX) cl_ok Sr26
theorem Sr41 (p : List Fr → Bool) (sg : List Fr) : callC C0 SA1 TX.funs TX.prim 2000 141 Sa41 sg (fun v' sg' wd => ifK (veq v' Sv41) (ifK (Nat.beq wd 0) (p sg') false) false) = p sg := by kernel_rfl
theorem Ss41 : SaysT TX 141 Sa41 Sv41 := says_of_C SA1_ok (primAll_su num0 KX LX) cl_ok Sr41
end Go.Vm
