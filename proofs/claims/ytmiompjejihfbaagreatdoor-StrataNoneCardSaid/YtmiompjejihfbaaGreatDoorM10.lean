/-
  A part of a proof: the last text of the claim says what is proved, and under which conditions.
-/
import Derived.Test.YtmiompjejihfbaaGreatDoorM9
set_option linter.unusedSimpArgs false
set_option linter.unusedVariables false
set_option linter.unnecessarySimpa false
/- Printed by closed.py. -/
namespace Go.Vm
open Go
set_option maxRecDepth 1000000
theorem Nr87 (p : List Fr → Bool) (sg : List Fr) : callC C0 NA1 TX.funs TX.prim 2000 10 Na87 sg (fun v' sg' wd => ifK (veq v' Nv87) (ifK (Nat.beq wd 0) (p sg') false) false) = p sg := by kernel_rfl
theorem Ns87 : SaysT TX 10 Na87 Nv87 := says_of_C NA1_ok (primAll_su num0 KX LX) cl_ok Nr87
theorem Nr15 (p : List Fr → Bool) (sg : List Fr) : callC C0 NA1 TX.funs TX.prim 2000 10 Na15 sg (fun v' sg' wd => ifK (veq v' Nv15) (ifK (Nat.beq wd 0) (p sg') false) false) = p sg := by kernel_rfl
theorem Ns15 : SaysT TX 10 Na15 Nv15 := says_of_C NA1_ok (primAll_su num0 KX LX) cl_ok Nr15
theorem Nr12 (p : List Fr → Bool) (sg : List Fr) : callC C0 NA1 TX.funs TX.prim 2000 10 Na12 sg (fun v' sg' wd => ifK (veq v' Nv12) (ifK (Nat.beq wd 0) (p sg') false) false) = p sg := by kernel_rfl
theorem Ns12 : SaysT TX 10 Na12 Nv12 := says_of_C NA1_ok (primAll_su num0 KX LX) cl_ok Nr12
end Go.Vm
