/-
  A part of a proof: the last text of the claim says what is proved, and under which conditions.
-/
import Derived.Test.YtmiompjejihfbaaGreatDoorM21
set_option linter.unusedSimpArgs false
set_option linter.unusedVariables false
set_option linter.unnecessarySimpa false
/- Printed by closed.py. -/
namespace Go.Vm
open Go
set_option maxRecDepth 1000000
theorem Nr66 (p : List Fr → Bool) (sg : List Fr) : callC C0 NA2 TX.funs TX.prim 2000 5 Na66 sg (fun v' sg' wd => ifK (veq v' Nv66) (ifK (Nat.beq wd 0) (p sg') false) false) = p sg := by kernel_rfl
theorem Ns66 : SaysT TX 5 Na66 Nv66 := says_of_C NA2_ok (primAll_su num0 KX LX) cl_ok Nr66
theorem Nr55 (p : List Fr → Bool) (sg : List Fr) : callC C0 NA2 TX.funs TX.prim 2000 5 Na55 sg (fun v' sg' wd => ifK (veq v' Nv55) (ifK (Nat.beq wd 0) (p sg') false) false) = p sg := by kernel_rfl
theorem Ns55 : SaysT TX 5 Na55 Nv55 := says_of_C NA2_ok (primAll_su num0 KX LX) cl_ok Nr55
theorem Nr75 (p : List Fr → Bool) (sg : List Fr) : callC C0 NA2 TX.funs TX.prim 2000 8 Na75 sg (fun v' sg' wd => ifK (veq v' Nv75) (ifK (Nat.beq wd 0) (p sg') false) false) = p sg := by kernel_rfl
theorem Ns75 : SaysT TX 8 Na75 Nv75 := says_of_C NA2_ok (primAll_su num0 KX LX) cl_ok Nr75
theorem Nr25 (p : List Fr → Bool) (sg : List Fr) : callC C0 NA2 TX.funs TX.prim 2000 5 Na25 sg (fun v' sg' wd => ifK (veq v' Nv25) (ifK (Nat.beq wd 0) (p sg') false) false) = p sg := by kernel_rfl
theorem Ns25 : SaysT TX 5 Na25 Nv25 := says_of_C NA2_ok (primAll_su num0 KX LX) cl_ok Nr25
theorem Nr85 (p : List Fr → Bool) (sg : List Fr) : callC C0 NA2 TX.funs TX.prim 2000 13 Na85 sg (fun v' sg' wd => ifK (veq v' Nv85) (ifK (Nat.beq wd 0) (p sg') false) false) = p sg := by kernel_rfl
theorem Ns85 : SaysT TX 13 Na85 Nv85 := says_of_C NA2_ok (primAll_su num0 KX LX) cl_ok Nr85
end Go.Vm
