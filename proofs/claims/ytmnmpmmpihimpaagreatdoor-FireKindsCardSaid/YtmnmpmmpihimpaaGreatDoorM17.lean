/-
  A part of a proof: the last text of the claim says what is proved, and under which conditions.
-/
import Derived.Test.YtmnmpmmpihimpaaGreatDoorM15
set_option linter.unusedSimpArgs false
set_option linter.unusedVariables false
set_option linter.unnecessarySimpa false
/- Printed by closed.py. -/
namespace Go.Vm
open Go
set_option maxRecDepth 1000000
theorem Kr11 (p : List Fr → Bool) (sg : List Fr) : callC C0 KA3 TX.funs TX.prim 2000 7 Ka11 sg (fun v' sg' wd => ifK (veq v' Kv11) (ifK (Nat.beq wd 0) (p sg') false) false) = p sg := by kernel_rfl
theorem Ks11 : SaysT TX 7 Ka11 Kv11 := says_of_C KA3_ok (primAll_su num0 KX LX) cl_ok Kr11
theorem Kr25 (p : List Fr → Bool) (sg : List Fr) : callC C0 KA3 TX.funs TX.prim 2000 7 Ka25 sg (fun v' sg' wd => ifK (veq v' Kv25) (ifK (Nat.beq wd 0) (p sg') false) false) = p sg := by kernel_rfl
theorem Ks25 : SaysT TX 7 Ka25 Kv25 := says_of_C KA3_ok (primAll_su num0 KX LX) cl_ok Kr25
theorem Kr31 (p : List Fr → Bool) (sg : List Fr) : callC C0 KA3 TX.funs TX.prim 2000 7 Ka31 sg (fun v' sg' wd => ifK (veq v' Kv31) (ifK (Nat.beq wd 0) (p sg') false) false) = p sg := by kernel_rfl
theorem Ks31 : SaysT TX 7 Ka31 Kv31 := says_of_C KA3_ok (primAll_su num0 KX LX) cl_ok Kr31
theorem Kr29 (p : List Fr → Bool) (sg : List Fr) : callC C0 KA3 TX.funs TX.prim 2000 7 Ka29 sg (fun v' sg' wd => ifK (veq v' Kv29) (ifK (Nat.beq wd 0) (p sg') false) false) = p sg := by kernel_rfl
theorem Ks29 : SaysT TX 7 Ka29 Kv29 := says_of_C KA3_ok (primAll_su num0 KX LX) cl_ok Kr29
end Go.Vm
