/-
  A part of a proof: the last text of the claim says what is proved, and under which conditions.
-/
import Derived.Test.YtmiompjejihfbaaGreatDoorM9
set_option linter.unusedSimpArgs false
set_option linter.unusedVariables false
set_option linter.unnecessarySimpa false
/- Printed by closed.py. -/
namespace Go.Vm
open Go
set_option maxRecDepth 1000000
theorem Nr68 (p : List Fr → Bool) (sg : List Fr) : callC C0 NA1 TX.funs TX.prim 2000 10 Na68 sg (fun v' sg' wd => ifK (veq v' Nv68) (ifK (Nat.beq wd 0) (p sg') false) false) = p sg := by kernel_rfl
theorem Ns68 : SaysT TX 10 Na68 Nv68 := says_of_C NA1_ok (primAll_su num0 KX LX) cl_ok Nr68
theorem Nr31 (p : List Fr → Bool) (sg : List Fr) : callC C0 NA1 TX.funs TX.prim 2000 10 Na31 sg (fun v' sg' wd => ifK (veq v' Nv31) (ifK (Nat.beq wd 0) (p sg') false) false) = p sg := by kernel_rfl
theorem Ns31 : SaysT TX 10 Na31 Nv31 := says_of_C NA1_ok (primAll_su num0 KX LX) cl_ok Nr31
theorem Nr6 (p : List Fr → Bool) (sg : List Fr) : callC C0 NA1 TX.funs TX.prim 2000 35 Na6 sg (fun v' sg' wd => ifK (veq v' Nv6) (ifK (Nat.beq wd 0) (p sg') false) false) = p sg := by kernel_rfl
theorem Ns6 : SaysT TX 35 Na6 Nv6 := says_of_C NA1_ok (primAll_su num0 KX LX) cl_ok Nr6
end Go.Vm
