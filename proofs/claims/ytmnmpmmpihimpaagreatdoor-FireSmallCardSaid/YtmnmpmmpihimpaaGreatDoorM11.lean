/-
  A part of a proof: the last text of the claim says what is proved, and under which conditions.
-/
import Derived.Test.YtmnmpmmpihimpaaGreatDoorM10
set_option linter.unusedSimpArgs false
set_option linter.unusedVariables false
set_option linter.unnecessarySimpa false
/- Printed by closed2.py. -/
namespace Go.Vm
open Go
set_option maxRecDepth 1000000
theorem Sr4 (p : List Fr → Bool) (sg : List Fr) : callC C0 SA0 TX.funs TX.prim 2000 80 Sa4 sg (fun v' sg' wd => ifK (veq v' Sv4) (ifK (Nat.beq wd 0) (p sg') false) false) = p sg := by kernel_rfl
theorem Ss4 : SaysT TX 80 Sa4 Sv4 := says_of_C SA0_ok (primAll_su num0 KX LX) cl_ok Sr4
theorem Sr3 (p : List Fr → Bool) (sg : List Fr) : callC C0 SA0 TX.funs TX.prim 2000 80 Sa3 sg (fun v' sg' wd => ifK (veq v' Sv3) (ifK (Nat.beq wd 0) (p sg') false) false) = p sg := by kernel_rfl
theorem Ss3 : SaysT TX 80 Sa3 Sv3 := says_of_C SA0_ok (primAll_su num0 KX LX) cl_ok Sr3
theorem Sr5 (p : List Fr → Bool) (sg : List Fr) : callC C0 SA0 TX.funs TX.prim 2000 80 Sa5 sg (fun v' sg' wd => ifK (veq v' Sv5) (ifK (Nat.beq wd 0) (p sg') false) false) = p sg := by kernel_rfl
theorem Ss5 : SaysT TX 80 Sa5 Sv5 := says_of_C SA0_ok (primAll_su num0 KX LX) cl_ok Sr5
theorem Sr6 (p : List Fr → Bool) (sg : List Fr) : callC C0 SA0 TX.funs TX.prim 2000 80 Sa6 sg (fun v' sg' wd => ifK (veq v' Sv6) (ifK (Nat.beq wd 0) (p sg') false) false) = p sg := by kernel_rfl
theorem Ss6 : SaysT TX 80 Sa6 Sv6 := says_of_C SA0_ok (primAll_su num0 KX LX) cl_ok Sr6
theorem Sr1 (p : List Fr → Bool) (sg : List Fr) : callC C0 SA0 TX.funs TX.prim 2000 45 Sa1 sg (fun v' sg' wd => ifK (veq v' Sv1) (ifK (Nat.beq wd 0) (p sg') false) false) = p sg := by kernel_rfl
theorem Ss1 : SaysT TX 45 Sa1 Sv1 := says_of_C SA0_ok (primAll_su num0 KX LX) cl_ok Sr1
theorem Sr10 (p : List Fr → Bool) (sg : List Fr) : callC C0 SA0 TX.funs TX.prim 2000 145 Sa10 sg (fun v' sg' wd => ifK (veq v' Sv10) (ifK (Nat.beq wd 0) (p sg') false) false) = p sg := by kernel_rfl
theorem Ss10 : SaysT TX 145 Sa10 Sv10 := says_of_C SA0_ok (primAll_su num0 KX LX) cl_ok Sr10
theorem Sr0 (p : List Fr → Bool) (sg : List Fr) : callC C0 SA0 TX.funs TX.prim 2000 11 Sa0 sg (fun v' sg' wd => ifK (veq v' Sv0) (ifK (Nat.beq wd 0) (p sg') false) false) = p sg := by kernel_rfl
theorem Ss0 : SaysT TX 11 Sa0 Sv0 := says_of_C SA0_ok (primAll_su num0 KX LX) cl_ok Sr0
end Go.Vm
