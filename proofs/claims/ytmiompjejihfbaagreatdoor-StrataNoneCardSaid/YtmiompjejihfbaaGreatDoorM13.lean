/-
  A part of a proof: the last text of the claim says what is proved, and under which conditions.
-/
import Derived.Test.YtmiompjejihfbaaGreatDoorM9
set_option linter.unusedSimpArgs false
set_option linter.unusedVariables false
set_option linter.unnecessarySimpa false
/- Printed by closed.py. -/
namespace Go.Vm
open Go
set_option maxRecDepth 1000000
theorem Nr76 (p : List Fr → Bool) (sg : List Fr) : callC C0 NA1 TX.funs TX.prim 2000 10 Na76 sg (fun v' sg' wd => ifK (veq v' Nv76) (ifK (Nat.beq wd 0) (p sg') false) false) = p sg := by kernel_rfl
theorem Ns76 : SaysT TX 10 Na76 Nv76 := says_of_C NA1_ok (primAll_su num0 KX LX) cl_ok Nr76
theorem Nr24 (p : List Fr → Bool) (sg : List Fr) : callC C0 NA1 TX.funs TX.prim 2000 10 Na24 sg (fun v' sg' wd => ifK (veq v' Nv24) (ifK (Nat.beq wd 0) (p sg') false) false) = p sg := by kernel_rfl
theorem Ns24 : SaysT TX 10 Na24 Nv24 := says_of_C NA1_ok (primAll_su num0 KX LX) cl_ok Nr24
theorem Nr1 (p : List Fr → Bool) (sg : List Fr) : callC C0 NA1 TX.funs TX.prim 2000 10 Na1 sg (fun v' sg' wd => ifK (veq v' Nv1) (ifK (Nat.beq wd 0) (p sg') false) false) = p sg := by kernel_rfl
theorem Ns1 : SaysT TX 10 Na1 Nv1 := says_of_C NA1_ok (primAll_su num0 KX LX) cl_ok Nr1
end Go.Vm
