/-
  A part of a proof: the last text of the claim says what is proved, and under which conditions.
-/
import Derived.Test.YtmiompjejihfbaaGreatDoorM21
set_option linter.unusedSimpArgs false
set_option linter.unusedVariables false
set_option linter.unnecessarySimpa false
/- Printed by closed.py. -/
namespace Go.Vm
open Go
set_option maxRecDepth 1000000
theorem Nr63 (p : List Fr → Bool) (sg : List Fr) : callC C0 NA2 TX.funs TX.prim 2000 5 Na63 sg (fun v' sg' wd => ifK (veq v' Nv63) (ifK (Nat.beq wd 0) (p sg') false) false) = p sg := by kernel_rfl
theorem Ns63 : SaysT TX 5 Na63 Nv63 := says_of_C NA2_ok (primAll_su num0 KX LX) cl_ok Nr63
theorem Nr60 (p : List Fr → Bool) (sg : List Fr) : callC C0 NA2 TX.funs TX.prim 2000 5 Na60 sg (fun v' sg' wd => ifK (veq v' Nv60) (ifK (Nat.beq wd 0) (p sg') false) false) = p sg := by kernel_rfl
theorem Ns60 : SaysT TX 5 Na60 Nv60 := says_of_C NA2_ok (primAll_su num0 KX LX) cl_ok Nr60
theorem Nr72 (p : List Fr → Bool) (sg : List Fr) : callC C0 NA2 TX.funs TX.prim 2000 8 Na72 sg (fun v' sg' wd => ifK (veq v' Nv72) (ifK (Nat.beq wd 0) (p sg') false) false) = p sg := by kernel_rfl
theorem Ns72 : SaysT TX 8 Na72 Nv72 := says_of_C NA2_ok (primAll_su num0 KX LX) cl_ok Nr72
theorem Nr61 (p : List Fr → Bool) (sg : List Fr) : callC C0 NA2 TX.funs TX.prim 2000 8 Na61 sg (fun v' sg' wd => ifK (veq v' Nv61) (ifK (Nat.beq wd 0) (p sg') false) false) = p sg := by kernel_rfl
theorem Ns61 : SaysT TX 8 Na61 Nv61 := says_of_C NA2_ok (primAll_su num0 KX LX) cl_ok Nr61
theorem Nr14 (p : List Fr → Bool) (sg : List Fr) : callC C0 NA2 TX.funs TX.prim 2000 5 Na14 sg (fun v' sg' wd => ifK (veq v' Nv14) (ifK (Nat.beq wd 0) (p sg') false) false) = p sg := by kernel_rfl
theorem Ns14 : SaysT TX 5 Na14 Nv14 := says_of_C NA2_ok (primAll_su num0 KX LX) cl_ok Nr14
end Go.Vm
