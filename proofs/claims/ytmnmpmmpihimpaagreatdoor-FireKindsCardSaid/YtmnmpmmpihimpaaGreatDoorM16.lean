/-
  A part of a proof: the last text of the claim says what is proved, and under which conditions.
-/
import Derived.Test.YtmnmpmmpihimpaaGreatDoorM15
set_option linter.unusedSimpArgs false
set_option linter.unusedVariables false
set_option linter.unnecessarySimpa false
/- Printed by closed.py. -/
namespace Go.Vm
open Go
set_option maxRecDepth 1000000
theorem Kr22 (p : List Fr → Bool) (sg : List Fr) : callC C0 KA3 TX.funs TX.prim 2000 7 Ka22 sg (fun v' sg' wd => ifK (veq v' Kv22) (ifK (Nat.beq wd 0) (p sg') false) false) = p sg := by kernel_rfl
theorem Ks22 : SaysT TX 7 Ka22 Kv22 := says_of_C KA3_ok (primAll_su num0 KX LX) cl_ok Kr22
theorem Kr28 (p : List Fr → Bool) (sg : List Fr) : callC C0 KA3 TX.funs TX.prim 2000 7 Ka28 sg (fun v' sg' wd => ifK (veq v' Kv28) (ifK (Nat.beq wd 0) (p sg') false) false) = p sg := by kernel_rfl
theorem Ks28 : SaysT TX 7 Ka28 Kv28 := says_of_C KA3_ok (primAll_su num0 KX LX) cl_ok Kr28
theorem Kr12 (p : List Fr → Bool) (sg : List Fr) : callC C0 KA3 TX.funs TX.prim 2000 7 Ka12 sg (fun v' sg' wd => ifK (veq v' Kv12) (ifK (Nat.beq wd 0) (p sg') false) false) = p sg := by kernel_rfl
theorem Ks12 : SaysT TX 7 Ka12 Kv12 := says_of_C KA3_ok (primAll_su num0 KX LX) cl_ok Kr12
theorem Kr26 (p : List Fr → Bool) (sg : List Fr) : callC C0 KA3 TX.funs TX.prim 2000 7 Ka26 sg (fun v' sg' wd => ifK (veq v' Kv26) (ifK (Nat.beq wd 0) (p sg') false) false) = p sg := by kernel_rfl
theorem Ks26 : SaysT TX 7 Ka26 Kv26 := says_of_C KA3_ok (primAll_su num0 KX LX) cl_ok Kr26
theorem Kr32 (p : List Fr → Bool) (sg : List Fr) : callC C0 KA3 TX.funs TX.prim 2000 7 Ka32 sg (fun v' sg' wd => ifK (veq v' Kv32) (ifK (Nat.beq wd 0) (p sg') false) false) = p sg := by kernel_rfl
theorem Ks32 : SaysT TX 7 Ka32 Kv32 := says_of_C KA3_ok (primAll_su num0 KX LX) cl_ok Kr32
end Go.Vm
