/-
  A part of a proof: the last text of the claim says what is proved, and under which conditions.
-/
import Derived.Test.YtmiompjejihfbaaGreatDoorM9
set_option linter.unusedSimpArgs false
set_option linter.unusedVariables false
set_option linter.unnecessarySimpa false
/- Printed by closed.py. -/
namespace Go.Vm
open Go
set_option maxRecDepth 1000000
theorem Nr79 (p : List Fr → Bool) (sg : List Fr) : callC C0 NA1 TX.funs TX.prim 2000 10 Na79 sg (fun v' sg' wd => ifK (veq v' Nv79) (ifK (Nat.beq wd 0) (p sg') false) false) = p sg := by kernel_rfl
theorem Ns79 : SaysT TX 10 Na79 Nv79 := says_of_C NA1_ok (primAll_su num0 KX LX) cl_ok Nr79
theorem Nr22 (p : List Fr → Bool) (sg : List Fr) : callC C0 NA1 TX.funs TX.prim 2000 10 Na22 sg (fun v' sg' wd => ifK (veq v' Nv22) (ifK (Nat.beq wd 0) (p sg') false) false) = p sg := by kernel_rfl
theorem Ns22 : SaysT TX 10 Na22 Nv22 := says_of_C NA1_ok (primAll_su num0 KX LX) cl_ok Nr22
theorem Nr59 (p : List Fr → Bool) (sg : List Fr) : callC C0 NA1 TX.funs TX.prim 2000 35 Na59 sg (fun v' sg' wd => ifK (veq v' Nv59) (ifK (Nat.beq wd 0) (p sg') false) false) = p sg := by kernel_rfl
theorem Ns59 : SaysT TX 35 Na59 Nv59 := says_of_C NA1_ok (primAll_su num0 KX LX) cl_ok Nr59
end Go.Vm
