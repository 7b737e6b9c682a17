/-
  A part of a proof: the last text of the claim says what is proved, and under which conditions.
-/
import Derived.Test.YtmiompjejihfbaaGreatDoorM21
set_option linter.unusedSimpArgs false
set_option linter.unusedVariables false
set_option linter.unnecessarySimpa false
/- Printed by closed.py. -/
namespace Go.Vm
open Go
set_option maxRecDepth 1000000
theorem Nr74 (p : List Fr → Bool) (sg : List Fr) : callC C0 NA2 TX.funs TX.prim 2000 5 Na74 sg (fun v' sg' wd => ifK (veq v' Nv74) (ifK (Nat.beq wd 0) (p sg') false) false) = p sg := by kernel_rfl
theorem Ns74 : SaysT TX 5 Na74 Nv74 := says_of_C NA2_ok (primAll_su num0 KX LX) cl_ok Nr74
theorem Nr49 (p : List Fr → Bool) (sg : List Fr) : callC C0 NA2 TX.funs TX.prim 2000 5 Na49 sg (fun v' sg' wd => ifK (veq v' Nv49) (ifK (Nat.beq wd 0) (p sg') false) false) = p sg := by kernel_rfl
theorem Ns49 : SaysT TX 5 Na49 Nv49 := says_of_C NA2_ok (primAll_su num0 KX LX) cl_ok Nr49
theorem Nr34 (p : List Fr → Bool) (sg : List Fr) : callC C0 NA2 TX.funs TX.prim 2000 5 Na34 sg (fun v' sg' wd => ifK (veq v' Nv34) (ifK (Nat.beq wd 0) (p sg') false) false) = p sg := by kernel_rfl
theorem Ns34 : SaysT TX 5 Na34 Nv34 := says_of_C NA2_ok (primAll_su num0 KX LX) cl_ok Nr34
theorem Nr53 (p : List Fr → Bool) (sg : List Fr) : callC C0 NA2 TX.funs TX.prim 2000 8 Na53 sg (fun v' sg' wd => ifK (veq v' Nv53) (ifK (Nat.beq wd 0) (p sg') false) false) = p sg := by kernel_rfl
theorem Ns53 : SaysT TX 8 Na53 Nv53 := says_of_C NA2_ok (primAll_su num0 KX LX) cl_ok Nr53
end Go.Vm
