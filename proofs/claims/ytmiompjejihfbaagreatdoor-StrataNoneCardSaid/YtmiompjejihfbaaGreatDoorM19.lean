/-
  A part of a proof: the last text of the claim says what is proved, and under which conditions.
-/
import Derived.Test.YtmiompjejihfbaaGreatDoorM9
set_option linter.unusedSimpArgs false
set_option linter.unusedVariables false
set_option linter.unnecessarySimpa false
/- Printed by closed.py. -/
namespace Go.Vm
open Go
set_option maxRecDepth 1000000
theorem Nr54 (p : List Fr → Bool) (sg : List Fr) : callC C0 NA1 TX.funs TX.prim 2000 10 Na54 sg (fun v' sg' wd => ifK (veq v' Nv54) (ifK (Nat.beq wd 0) (p sg') false) false) = p sg := by kernel_rfl
theorem Ns54 : SaysT TX 10 Na54 Nv54 := says_of_C NA1_ok (primAll_su num0 KX LX) cl_ok Nr54
theorem Nr43 (p : List Fr → Bool) (sg : List Fr) : callC C0 NA1 TX.funs TX.prim 2000 10 Na43 sg (fun v' sg' wd => ifK (veq v' Nv43) (ifK (Nat.beq wd 0) (p sg') false) false) = p sg := by kernel_rfl
theorem Ns43 : SaysT TX 10 Na43 Nv43 := says_of_C NA1_ok (primAll_su num0 KX LX) cl_ok Nr43
theorem Nr10 (p : List Fr → Bool) (sg : List Fr) : callC C0 NA1 TX.funs TX.prim 2000 22 Na10 sg (fun v' sg' wd => ifK (veq v' Nv10) (ifK (Nat.beq wd 0) (p sg') false) false) = p sg := by kernel_rfl
theorem Ns10 : SaysT TX 22 Na10 Nv10 := says_of_C NA1_ok (primAll_su num0 KX LX) cl_ok Nr10
end Go.Vm
