/-
  A part of a proof: the last text of the claim says what is proved, and under which conditions.
-/
import Derived.Test.YtmiompjejihfbaaGreatDoorM21
set_option linter.unusedSimpArgs false
set_option linter.unusedVariables false
set_option linter.unnecessarySimpa false
/- Printed by closed.py. -/
namespace Go.Vm
open Go
set_option maxRecDepth 1000000
theorem Nr77 (p : List Fr → Bool) (sg : List Fr) : callC C0 NA2 TX.funs TX.prim 2000 5 Na77 sg (fun v' sg' wd => ifK (veq v' Nv77) (ifK (Nat.beq wd 0) (p sg') false) false) = p sg := by kernel_rfl
theorem Ns77 : SaysT TX 5 Na77 Nv77 := says_of_C NA2_ok (primAll_su num0 KX LX) cl_ok Nr77
theorem Nr11 (p : List Fr → Bool) (sg : List Fr) : callC C0 NA2 TX.funs TX.prim 2000 9 Na11 sg (fun v' sg' wd => ifK (veq v' Nv11) (ifK (Nat.beq wd 0) (p sg') false) false) = p sg := by kernel_rfl
theorem Ns11 : SaysT TX 9 Na11 Nv11 := says_of_C NA2_ok (primAll_su num0 KX LX) cl_ok Nr11
theorem Nr78 (p : List Fr → Bool) (sg : List Fr) : callC C0 NA2 TX.funs TX.prim 2000 8 Na78 sg (fun v' sg' wd => ifK (veq v' Nv78) (ifK (Nat.beq wd 0) (p sg') false) false) = p sg := by kernel_rfl
theorem Ns78 : SaysT TX 8 Na78 Nv78 := says_of_C NA2_ok (primAll_su num0 KX LX) cl_ok Nr78
theorem Nr56 (p : List Fr → Bool) (sg : List Fr) : callC C0 NA2 TX.funs TX.prim 2000 8 Na56 sg (fun v' sg' wd => ifK (veq v' Nv56) (ifK (Nat.beq wd 0) (p sg') false) false) = p sg := by kernel_rfl
theorem Ns56 : SaysT TX 8 Na56 Nv56 := says_of_C NA2_ok (primAll_su num0 KX LX) cl_ok Nr56
theorem Nr89 (p : List Fr → Bool) (sg : List Fr) : callC C0 NA2 TX.funs TX.prim 2000 13 Na89 sg (fun v' sg' wd => ifK (veq v' Nv89) (ifK (Nat.beq wd 0) (p sg') false) false) = p sg := by kernel_rfl
theorem Ns89 : SaysT TX 13 Na89 Nv89 := says_of_C NA2_ok (primAll_su num0 KX LX) cl_ok Nr89
end Go.Vm
