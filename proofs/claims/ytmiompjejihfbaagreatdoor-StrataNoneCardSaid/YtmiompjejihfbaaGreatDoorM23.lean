/-
  A part of a proof: the last text of the claim says what is proved, and under which conditions.
-/
import Derived.Test.YtmiompjejihfbaaGreatDoorM21
set_option linter.unusedSimpArgs false
set_option linter.unusedVariables false
set_option linter.unnecessarySimpa false
/- Printed by closed.py. -/
namespace Go.Vm
open Go
set_option maxRecDepth 1000000
theorem Nr84 (p : List Fr → Bool) (sg : List Fr) : callC C0 NA2 TX.funs TX.prim 2000 5 Na84 sg (fun v' sg' wd => ifK (veq v' Nv84) (ifK (Nat.beq wd 0) (p sg') false) false) = p sg := by kernel_rfl
theorem Ns84 : SaysT TX 5 Na84 Nv84 := says_of_C NA2_ok (primAll_su num0 KX LX) cl_ok Nr84
theorem Nr41 (p : List Fr → Bool) (sg : List Fr) : callC C0 NA2 TX.funs TX.prim 2000 5 Na41 sg (fun v' sg' wd => ifK (veq v' Nv41) (ifK (Nat.beq wd 0) (p sg') false) false) = p sg := by kernel_rfl
theorem Ns41 : SaysT TX 5 Na41 Nv41 := says_of_C NA2_ok (primAll_su num0 KX LX) cl_ok Nr41
theorem Nr30 (p : List Fr → Bool) (sg : List Fr) : callC C0 NA2 TX.funs TX.prim 2000 5 Na30 sg (fun v' sg' wd => ifK (veq v' Nv30) (ifK (Nat.beq wd 0) (p sg') false) false) = p sg := by kernel_rfl
theorem Ns30 : SaysT TX 5 Na30 Nv30 := says_of_C NA2_ok (primAll_su num0 KX LX) cl_ok Nr30
theorem Nr42 (p : List Fr → Bool) (sg : List Fr) : callC C0 NA2 TX.funs TX.prim 2000 8 Na42 sg (fun v' sg' wd => ifK (veq v' Nv42) (ifK (Nat.beq wd 0) (p sg') false) false) = p sg := by kernel_rfl
theorem Ns42 : SaysT TX 8 Na42 Nv42 := says_of_C NA2_ok (primAll_su num0 KX LX) cl_ok Nr42
theorem Nr16 (p : List Fr → Bool) (sg : List Fr) : callC C0 NA2 TX.funs TX.prim 2000 5 Na16 sg (fun v' sg' wd => ifK (veq v' Nv16) (ifK (Nat.beq wd 0) (p sg') false) false) = p sg := by kernel_rfl
theorem Ns16 : SaysT TX 5 Na16 Nv16 := says_of_C NA2_ok (primAll_su num0 KX LX) cl_ok Nr16
end Go.Vm
