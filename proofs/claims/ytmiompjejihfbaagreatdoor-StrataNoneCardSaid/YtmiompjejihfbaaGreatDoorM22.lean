/-
  A part of a proof: the last text of the claim says what is proved, and under which conditions.
-/
import Derived.Test.YtmiompjejihfbaaGreatDoorM21
set_option linter.unusedSimpArgs false
set_option linter.unusedVariables false
set_option linter.unnecessarySimpa false
/- Printed by closed.py. -/
namespace Go.Vm
open Go
set_option maxRecDepth 1000000
theorem Nr88 (p : List Fr → Bool) (sg : List Fr) : callC C0 NA2 TX.funs TX.prim 2000 5 Na88 sg (fun v' sg' wd => ifK (veq v' Nv88) (ifK (Nat.beq wd 0) (p sg') false) false) = p sg := by kernel_rfl
theorem Ns88 : SaysT TX 5 Na88 Nv88 := says_of_C NA2_ok (primAll_su num0 KX LX) cl_ok Nr88
theorem Nr39 (p : List Fr → Bool) (sg : List Fr) : callC C0 NA2 TX.funs TX.prim 2000 5 Na39 sg (fun v' sg' wd => ifK (veq v' Nv39) (ifK (Nat.beq wd 0) (p sg') false) false) = p sg := by kernel_rfl
theorem Ns39 : SaysT TX 5 Na39 Nv39 := says_of_C NA2_ok (primAll_su num0 KX LX) cl_ok Nr39
theorem Nr67 (p : List Fr → Bool) (sg : List Fr) : callC C0 NA2 TX.funs TX.prim 2000 8 Na67 sg (fun v' sg' wd => ifK (veq v' Nv67) (ifK (Nat.beq wd 0) (p sg') false) false) = p sg := by kernel_rfl
theorem Ns67 : SaysT TX 8 Na67 Nv67 := says_of_C NA2_ok (primAll_su num0 KX LX) cl_ok Nr67
theorem Nr21 (p : List Fr → Bool) (sg : List Fr) : callC C0 NA2 TX.funs TX.prim 2000 5 Na21 sg (fun v' sg' wd => ifK (veq v' Nv21) (ifK (Nat.beq wd 0) (p sg') false) false) = p sg := by kernel_rfl
theorem Ns21 : SaysT TX 5 Na21 Nv21 := says_of_C NA2_ok (primAll_su num0 KX LX) cl_ok Nr21
theorem Nr81 (p : List Fr → Bool) (sg : List Fr) : callC C0 NA2 TX.funs TX.prim 2000 6 Na81 sg (fun v' sg' wd => ifK (veq v' Nv81) (ifK (Nat.beq wd 0) (p sg') false) false) = p sg := by kernel_rfl
theorem Ns81 : SaysT TX 6 Na81 Nv81 := says_of_C NA2_ok (primAll_su num0 KX LX) cl_ok Nr81
end Go.Vm
