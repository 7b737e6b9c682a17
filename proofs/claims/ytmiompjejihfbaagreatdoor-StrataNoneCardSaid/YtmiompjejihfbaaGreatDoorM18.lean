/-
  A part of a proof: the last text of the claim says what is proved, and under which conditions.
-/
import Derived.Test.YtmiompjejihfbaaGreatDoorM9
set_option linter.unusedSimpArgs false
set_option linter.unusedVariables false
set_option linter.unnecessarySimpa false
/- Printed by closed.py. -/
namespace Go.Vm
open Go
set_option maxRecDepth 1000000
theorem Nr57 (p : List Fr → Bool) (sg : List Fr) : callC C0 NA1 TX.funs TX.prim 2000 10 Na57 sg (fun v' sg' wd => ifK (veq v' Nv57) (ifK (Nat.beq wd 0) (p sg') false) false) = p sg := by kernel_rfl
theorem Ns57 : SaysT TX 10 Na57 Nv57 := says_of_C NA1_ok (primAll_su num0 KX LX) cl_ok Nr57
theorem Nr40 (p : List Fr → Bool) (sg : List Fr) : callC C0 NA1 TX.funs TX.prim 2000 10 Na40 sg (fun v' sg' wd => ifK (veq v' Nv40) (ifK (Nat.beq wd 0) (p sg') false) false) = p sg := by kernel_rfl
theorem Ns40 : SaysT TX 10 Na40 Nv40 := says_of_C NA1_ok (primAll_su num0 KX LX) cl_ok Nr40
theorem Nr29 (p : List Fr → Bool) (sg : List Fr) : callC C0 NA1 TX.funs TX.prim 2000 35 Na29 sg (fun v' sg' wd => ifK (veq v' Nv29) (ifK (Nat.beq wd 0) (p sg') false) false) = p sg := by kernel_rfl
theorem Ns29 : SaysT TX 35 Na29 Nv29 := says_of_C NA1_ok (primAll_su num0 KX LX) cl_ok Nr29
end Go.Vm
