/-
  A part of a proof: the last text of the claim says what is proved, and under which conditions.
-/
import Derived.Test.YtmnmpmmpihimpaaGreatDoorM12
set_option linter.unusedSimpArgs false
set_option linter.unusedVariables false
set_option linter.unnecessarySimpa false
/- Printed by closed.py. -/
namespace Go.Vm
open Go
set_option maxRecDepth 1000000
theorem Kr21 (p : List Fr → Bool) (sg : List Fr) : callC C0 KA2 TX.funs TX.prim 2000 337 Ka21 sg (fun v' sg' wd => ifK (veq v' Kv21) (ifK (Nat.beq wd 0) (p sg') false) false) = p sg := by kernel_rfl
theorem Ks21 : SaysT TX 337 Ka21 Kv21 := says_of_C KA2_ok (primAll_su num0 KX LX) cl_ok Kr21
theorem Kr20 (p : List Fr → Bool) (sg : List Fr) : callC C0 KA2 TX.funs TX.prim 2000 337 Ka20 sg (fun v' sg' wd => ifK (veq v' Kv20) (ifK (Nat.beq wd 0) (p sg') false) false) = p sg := by kernel_rfl
theorem Ks20 : SaysT TX 337 Ka20 Kv20 := says_of_C KA2_ok (primAll_su num0 KX LX) cl_ok Kr20
theorem Kr18 (p : List Fr → Bool) (sg : List Fr) : callC C0 KA2 TX.funs TX.prim 2000 337 Ka18 sg (fun v' sg' wd => ifK (veq v' Kv18) (ifK (Nat.beq wd 0) (p sg') false) false) = p sg := by kernel_rfl
theorem Ks18 : SaysT TX 337 Ka18 Kv18 := says_of_C KA2_ok (primAll_su num0 KX LX) cl_ok Kr18
theorem Kr17 (p : List Fr → Bool) (sg : List Fr) : callC C0 KA2 TX.funs TX.prim 2000 28 Ka17 sg (fun v' sg' wd => ifK (veq v' Kv17) (ifK (Nat.beq wd 0) (p sg') false) false) = p sg := by kernel_rfl
theorem Ks17 : SaysT TX 28 Ka17 Kv17 := says_of_C KA2_ok (primAll_su num0 KX LX) cl_ok Kr17
end Go.Vm
