/-
  A part of a proof: the last text of the claim says what is proved, and under which conditions.
-/
import Derived.Test.YtmiompjejihfbaaGreatDoorM9
set_option linter.unusedSimpArgs false
set_option linter.unusedVariables false
set_option linter.unnecessarySimpa false
/- Printed by closed.py. -/
namespace Go.Vm
open Go
set_option maxRecDepth 1000000
theorem Nr51 (p : List Fr → Bool) (sg : List Fr) : callC C0 NA1 TX.funs TX.prim 2000 10 Na51 sg (fun v' sg' wd => ifK (veq v' Nv51) (ifK (Nat.beq wd 0) (p sg') false) false) = p sg := by kernel_rfl
theorem Ns51 : SaysT TX 10 Na51 Nv51 := says_of_C NA1_ok (primAll_su num0 KX LX) cl_ok Nr51
theorem Nr46 (p : List Fr → Bool) (sg : List Fr) : callC C0 NA1 TX.funs TX.prim 2000 10 Na46 sg (fun v' sg' wd => ifK (veq v' Nv46) (ifK (Nat.beq wd 0) (p sg') false) false) = p sg := by kernel_rfl
theorem Ns46 : SaysT TX 10 Na46 Nv46 := says_of_C NA1_ok (primAll_su num0 KX LX) cl_ok Nr46
theorem Nr38 (p : List Fr → Bool) (sg : List Fr) : callC C0 NA1 TX.funs TX.prim 2000 35 Na38 sg (fun v' sg' wd => ifK (veq v' Nv38) (ifK (Nat.beq wd 0) (p sg') false) false) = p sg := by kernel_rfl
theorem Ns38 : SaysT TX 35 Na38 Nv38 := says_of_C NA1_ok (primAll_su num0 KX LX) cl_ok Nr38
end Go.Vm
