/-
  A part of a proof: the last text of the claim says what is proved, and under which conditions.
-/
import Derived.Test.YtmiompjejihfbaaGreatDoorM9
set_option linter.unusedSimpArgs false
set_option linter.unusedVariables false
set_option linter.unnecessarySimpa false
/- Printed by closed.py. -/
namespace Go.Vm
open Go
set_option maxRecDepth 1000000
theorem Nr83 (p : List Fr → Bool) (sg : List Fr) : callC C0 NA1 TX.funs TX.prim 2000 10 Na83 sg (fun v' sg' wd => ifK (veq v' Nv83) (ifK (Nat.beq wd 0) (p sg') false) false) = p sg := by kernel_rfl
theorem Ns83 : SaysT TX 10 Na83 Nv83 := says_of_C NA1_ok (primAll_su num0 KX LX) cl_ok Nr83
theorem Nr17 (p : List Fr → Bool) (sg : List Fr) : callC C0 NA1 TX.funs TX.prim 2000 10 Na17 sg (fun v' sg' wd => ifK (veq v' Nv17) (ifK (Nat.beq wd 0) (p sg') false) false) = p sg := by kernel_rfl
theorem Ns17 : SaysT TX 10 Na17 Nv17 := says_of_C NA1_ok (primAll_su num0 KX LX) cl_ok Nr17
theorem Nr48 (p : List Fr → Bool) (sg : List Fr) : callC C0 NA1 TX.funs TX.prim 2000 35 Na48 sg (fun v' sg' wd => ifK (veq v' Nv48) (ifK (Nat.beq wd 0) (p sg') false) false) = p sg := by kernel_rfl
theorem Ns48 : SaysT TX 35 Na48 Nv48 := says_of_C NA1_ok (primAll_su num0 KX LX) cl_ok Nr48
end Go.Vm
