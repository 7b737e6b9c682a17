/-
  A part of a proof: the last text of the claim says what is proved, and under which conditions.
-/
import Derived.Test.YtmnmpmmpihimpaaGreatDoorM12
set_option linter.unusedSimpArgs false
set_option linter.unusedVariables false
set_option linter.unnecessarySimpa false
/- Printed by closed.py. -/
namespace Go.Vm
open Go
set_option maxRecDepth 1000000
theorem Kr15 (p : List Fr → Bool) (sg : List Fr) : callC C0 KA2 TX.funs TX.prim 2000 6 Ka15 sg (fun v' sg' wd => ifK (veq v' Kv15) (ifK (Nat.beq wd 0) (p sg') false) false) = p sg := by kernel_rfl
theorem Ks15 : SaysT TX 6 Ka15 Kv15 := says_of_C KA2_ok (primAll_su num0 KX LX) cl_ok Kr15
theorem Kr19 (p : List Fr → Bool) (sg : List Fr) : callC C0 KA2 TX.funs TX.prim 2000 337 Ka19 sg (fun v' sg' wd => ifK (veq v' Kv19) (ifK (Nat.beq wd 0) (p sg') false) false) = p sg := by kernel_rfl
theorem Ks19 : SaysT TX 337 Ka19 Kv19 := says_of_C KA2_ok (primAll_su num0 KX LX) cl_ok Kr19
theorem Kr7 (p : List Fr → Bool) (sg : List Fr) : callC C0 KA2 TX.funs TX.prim 2000 6 Ka7 sg (fun v' sg' wd => ifK (veq v' Kv7) (ifK (Nat.beq wd 0) (p sg') false) false) = p sg := by kernel_rfl
theorem Ks7 : SaysT TX 6 Ka7 Kv7 := says_of_C KA2_ok (primAll_su num0 KX LX) cl_ok Kr7
theorem Kr9 (p : List Fr → Bool) (sg : List Fr) : callC C0 KA2 TX.funs TX.prim 2000 28 Ka9 sg (fun v' sg' wd => ifK (veq v' Kv9) (ifK (Nat.beq wd 0) (p sg') false) false) = p sg := by kernel_rfl
theorem Ks9 : SaysT TX 28 Ka9 Kv9 := says_of_C KA2_ok (primAll_su num0 KX LX) cl_ok Kr9
end Go.Vm
