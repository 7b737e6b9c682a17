/-
  A part of a proof: the last text of the claim says what is proved, and under which conditions.
-/
import Derived.Test.YtmiompjejihfbaaGreatDoorM21
set_option linter.unusedSimpArgs false
set_option linter.unusedVariables false
set_option linter.unnecessarySimpa false
/- Printed by closed.py. -/
namespace Go.Vm
open Go
set_option maxRecDepth 1000000
theorem Nr71 (p : List Fr → Bool) (sg : List Fr) : callC C0 NA2 TX.funs TX.prim 2000 5 Na71 sg (fun v' sg' wd => ifK (veq v' Nv71) (ifK (Nat.beq wd 0) (p sg') false) false) = p sg := by kernel_rfl
theorem Ns71 : SaysT TX 5 Na71 Nv71 := says_of_C NA2_ok (primAll_su num0 KX LX) cl_ok Nr71
theorem Nr52 (p : List Fr → Bool) (sg : List Fr) : callC C0 NA2 TX.funs TX.prim 2000 5 Na52 sg (fun v' sg' wd => ifK (veq v' Nv52) (ifK (Nat.beq wd 0) (p sg') false) false) = p sg := by kernel_rfl
theorem Ns52 : SaysT TX 5 Na52 Nv52 := says_of_C NA2_ok (primAll_su num0 KX LX) cl_ok Nr52
theorem Nr32 (p : List Fr → Bool) (sg : List Fr) : callC C0 NA2 TX.funs TX.prim 2000 5 Na32 sg (fun v' sg' wd => ifK (veq v' Nv32) (ifK (Nat.beq wd 0) (p sg') false) false) = p sg := by kernel_rfl
theorem Ns32 : SaysT TX 5 Na32 Nv32 := says_of_C NA2_ok (primAll_su num0 KX LX) cl_ok Nr32
theorem Nr23 (p : List Fr → Bool) (sg : List Fr) : callC C0 NA2 TX.funs TX.prim 2000 5 Na23 sg (fun v' sg' wd => ifK (veq v' Nv23) (ifK (Nat.beq wd 0) (p sg') false) false) = p sg := by kernel_rfl
theorem Ns23 : SaysT TX 5 Na23 Nv23 := says_of_C NA2_ok (primAll_su num0 KX LX) cl_ok Nr23
end Go.Vm
