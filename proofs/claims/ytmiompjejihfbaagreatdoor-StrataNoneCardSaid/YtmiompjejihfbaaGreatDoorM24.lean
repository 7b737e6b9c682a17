/-
  A part of a proof: the last text of the claim says what is proved, and under which conditions.
-/
import Derived.Test.YtmiompjejihfbaaGreatDoorM21
set_option linter.unusedSimpArgs false
set_option linter.unusedVariables false
set_option linter.unnecessarySimpa false
/- Printed by closed.py. -/
namespace Go.Vm
open Go
set_option maxRecDepth 1000000
theorem Nr80 (p : List Fr → Bool) (sg : List Fr) : callC C0 NA2 TX.funs TX.prim 2000 5 Na80 sg (fun v' sg' wd => ifK (veq v' Nv80) (ifK (Nat.beq wd 0) (p sg') false) false) = p sg := by kernel_rfl
theorem Ns80 : SaysT TX 5 Na80 Nv80 := says_of_C NA2_ok (primAll_su num0 KX LX) cl_ok Nr80
theorem Nr44 (p : List Fr → Bool) (sg : List Fr) : callC C0 NA2 TX.funs TX.prim 2000 5 Na44 sg (fun v' sg' wd => ifK (veq v' Nv44) (ifK (Nat.beq wd 0) (p sg') false) false) = p sg := by kernel_rfl
theorem Ns44 : SaysT TX 5 Na44 Nv44 := says_of_C NA2_ok (primAll_su num0 KX LX) cl_ok Nr44
theorem Nr64 (p : List Fr → Bool) (sg : List Fr) : callC C0 NA2 TX.funs TX.prim 2000 8 Na64 sg (fun v' sg' wd => ifK (veq v' Nv64) (ifK (Nat.beq wd 0) (p sg') false) false) = p sg := by kernel_rfl
theorem Ns64 : SaysT TX 8 Na64 Nv64 := says_of_C NA2_ok (primAll_su num0 KX LX) cl_ok Nr64
theorem Nr50 (p : List Fr → Bool) (sg : List Fr) : callC C0 NA2 TX.funs TX.prim 2000 8 Na50 sg (fun v' sg' wd => ifK (veq v' Nv50) (ifK (Nat.beq wd 0) (p sg') false) false) = p sg := by kernel_rfl
theorem Ns50 : SaysT TX 8 Na50 Nv50 := says_of_C NA2_ok (primAll_su num0 KX LX) cl_ok Nr50
theorem Nr45 (p : List Fr → Bool) (sg : List Fr) : callC C0 NA2 TX.funs TX.prim 2000 8 Na45 sg (fun v' sg' wd => ifK (veq v' Nv45) (ifK (Nat.beq wd 0) (p sg') false) false) = p sg := by kernel_rfl
theorem Ns45 : SaysT TX 8 Na45 Nv45 := says_of_C NA2_ok (primAll_su num0 KX LX) cl_ok Nr45
end Go.Vm
