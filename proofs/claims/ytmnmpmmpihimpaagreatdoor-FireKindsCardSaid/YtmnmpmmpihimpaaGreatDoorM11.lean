/-
  A part of a proof: the last text of the claim says what is proved, and under which conditions.
-/
import Derived.Test.YtmnmpmmpihimpaaGreatDoorM10
set_option linter.unusedSimpArgs false
set_option linter.unusedVariables false
set_option linter.unnecessarySimpa false
/- Printed by closed.py. -/
namespace Go.Vm
open Go
set_option maxRecDepth 1000000
theorem Kr13 (p : List Fr → Bool) (sg : List Fr) : callC C0 KA1 TX.funs TX.prim 2000 12 Ka13 sg (fun v' sg' wd => ifK (veq v' Kv13) (ifK (Nat.beq wd 0) (p sg') false) false) = p sg := by kernel_rfl
theorem Ks13 : SaysT TX 12 Ka13 Kv13 := says_of_C KA1_ok (primAll_su num0 KX LX) cl_ok Kr13
theorem Kr1 (p : List Fr → Bool) (sg : List Fr) : callC C0 KA1 TX.funs TX.prim 2000 12 Ka1 sg (fun v' sg' wd => ifK (veq v' Kv1) (ifK (Nat.beq wd 0) (p sg') false) false) = p sg := by kernel_rfl
theorem Ks1 : SaysT TX 12 Ka1 Kv1 := says_of_C KA1_ok (primAll_su num0 KX LX) cl_ok Kr1
theorem Kr16 (p : List Fr → Bool) (sg : List Fr) : callC C0 KA1 TX.funs TX.prim 2000 139 Ka16 sg (fun v' sg' wd => ifK (veq v' Kv16) (ifK (Nat.beq wd 0) (p sg') false) false) = p sg := by kernel_rfl
theorem Ks16 : SaysT TX 139 Ka16 Kv16 := says_of_C KA1_ok (primAll_su num0 KX LX) cl_ok Kr16
theorem Kr8 (p : List Fr → Bool) (sg : List Fr) : callC C0 KA1 TX.funs TX.prim 2000 140 Ka8 sg (fun v' sg' wd => ifK (veq v' Kv8) (ifK (Nat.beq wd 0) (p sg') false) false) = p sg := by kernel_rfl
theorem Ks8 : SaysT TX 140 Ka8 Kv8 := says_of_C KA1_ok (primAll_su num0 KX LX) cl_ok Kr8
end Go.Vm
