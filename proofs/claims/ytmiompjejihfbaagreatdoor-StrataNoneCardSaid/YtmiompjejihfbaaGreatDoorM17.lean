/-
  A part of a proof: the last text of the claim says what is proved, and under which conditions.
-/
import Derived.Test.YtmiompjejihfbaaGreatDoorM9
set_option linter.unusedSimpArgs false
set_option linter.unusedVariables false
set_option linter.unnecessarySimpa false
/- Printed by closed.py. -/
namespace Go.Vm
open Go
set_option maxRecDepth 1000000
theorem Nr62 (p : List Fr → Bool) (sg : List Fr) : callC C0 NA1 TX.funs TX.prim 2000 10 Na62 sg (fun v' sg' wd => ifK (veq v' Nv62) (ifK (Nat.beq wd 0) (p sg') false) false) = p sg := by kernel_rfl
theorem Ns62 : SaysT TX 10 Na62 Nv62 := says_of_C NA1_ok (primAll_su num0 KX LX) cl_ok Nr62
theorem Nr35 (p : List Fr → Bool) (sg : List Fr) : callC C0 NA1 TX.funs TX.prim 2000 10 Na35 sg (fun v' sg' wd => ifK (veq v' Nv35) (ifK (Nat.beq wd 0) (p sg') false) false) = p sg := by kernel_rfl
theorem Ns35 : SaysT TX 10 Na35 Nv35 := says_of_C NA1_ok (primAll_su num0 KX LX) cl_ok Nr35
theorem Nr20 (p : List Fr → Bool) (sg : List Fr) : callC C0 NA1 TX.funs TX.prim 2000 35 Na20 sg (fun v' sg' wd => ifK (veq v' Nv20) (ifK (Nat.beq wd 0) (p sg') false) false) = p sg := by kernel_rfl
theorem Ns20 : SaysT TX 35 Na20 Nv20 := says_of_C NA1_ok (primAll_su num0 KX LX) cl_ok Nr20
end Go.Vm
