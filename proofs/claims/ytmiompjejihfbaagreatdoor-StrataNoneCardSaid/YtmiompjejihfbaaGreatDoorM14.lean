/-
  A part of a proof: the last text of the claim says what is proved, and under which conditions.
-/
import Derived.Test.YtmiompjejihfbaaGreatDoorM9
set_option linter.unusedSimpArgs false
set_option linter.unusedVariables false
set_option linter.unnecessarySimpa false
/- Printed by closed.py. -/
namespace Go.Vm
open Go
set_option maxRecDepth 1000000
theorem Nr73 (p : List Fr → Bool) (sg : List Fr) : callC C0 NA1 TX.funs TX.prim 2000 10 Na73 sg (fun v' sg' wd => ifK (veq v' Nv73) (ifK (Nat.beq wd 0) (p sg') false) false) = p sg := by kernel_rfl
theorem Ns73 : SaysT TX 10 Na73 Nv73 := says_of_C NA1_ok (primAll_su num0 KX LX) cl_ok Nr73
theorem Nr26 (p : List Fr → Bool) (sg : List Fr) : callC C0 NA1 TX.funs TX.prim 2000 10 Na26 sg (fun v' sg' wd => ifK (veq v' Nv26) (ifK (Nat.beq wd 0) (p sg') false) false) = p sg := by kernel_rfl
theorem Ns26 : SaysT TX 10 Na26 Nv26 := says_of_C NA1_ok (primAll_su num0 KX LX) cl_ok Nr26
theorem Nr70 (p : List Fr → Bool) (sg : List Fr) : callC C0 NA1 TX.funs TX.prim 2000 35 Na70 sg (fun v' sg' wd => ifK (veq v' Nv70) (ifK (Nat.beq wd 0) (p sg') false) false) = p sg := by kernel_rfl
theorem Ns70 : SaysT TX 35 Na70 Nv70 := says_of_C NA1_ok (primAll_su num0 KX LX) cl_ok Nr70
end Go.Vm
