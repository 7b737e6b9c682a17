/-
  A part of a proof: the last text of the claim says what is proved, and under which conditions.
-/
import Derived.Test.YtmiompjejihfbaaGreatDoorM9
set_option linter.unusedSimpArgs false
set_option linter.unusedVariables false
set_option linter.unnecessarySimpa false
/- Printed by closed.py. -/
namespace Go.Vm
open Go
set_option maxRecDepth 1000000
theorem Nr65 (p : List Fr → Bool) (sg : List Fr) : callC C0 NA1 TX.funs TX.prim 2000 10 Na65 sg (fun v' sg' wd => ifK (veq v' Nv65) (ifK (Nat.beq wd 0) (p sg') false) false) = p sg := by kernel_rfl
theorem Ns65 : SaysT TX 10 Na65 Nv65 := says_of_C NA1_ok (primAll_su num0 KX LX) cl_ok Nr65
theorem Nr33 (p : List Fr → Bool) (sg : List Fr) : callC C0 NA1 TX.funs TX.prim 2000 10 Na33 sg (fun v' sg' wd => ifK (veq v' Nv33) (ifK (Nat.beq wd 0) (p sg') false) false) = p sg := by kernel_rfl
theorem Ns33 : SaysT TX 10 Na33 Nv33 := says_of_C NA1_ok (primAll_su num0 KX LX) cl_ok Nr33
theorem Nr8 (p : List Fr → Bool) (sg : List Fr) : callC C0 NA1 TX.funs TX.prim 2000 5 Na8 sg (fun v' sg' wd => ifK (veq v' Nv8) (ifK (Nat.beq wd 0) (p sg') false) false) = p sg := by kernel_rfl
theorem Ns8 : SaysT TX 5 Na8 Nv8 := says_of_C NA1_ok (primAll_su num0 KX LX) cl_ok Nr8
end Go.Vm
