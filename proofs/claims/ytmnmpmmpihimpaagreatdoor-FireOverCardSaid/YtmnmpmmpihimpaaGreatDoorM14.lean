/-
  A part of a proof: the last text of the claim says what is proved, and under which conditions.
-/
import Derived.Test.YtmnmpmmpihimpaaGreatDoorM13
set_option linter.unusedSimpArgs false
set_option linter.unusedVariables false
set_option linter.unnecessarySimpa false
/- Printed by closed2.py. -/
namespace Go.Vm
open Go
set_option maxRecDepth 1000000
theorem Or12 (p : List Fr → Bool) (sg : List Fr) : callC C0 OA1 TX.funs TX.prim 2000 12 Oa12 sg (fun v' sg' wd => ifK (veq v' Ov12) (ifK (Nat.beq wd 0) (p sg') false) false) = p sg := by kernel_rfl
theorem Os12 : SaysT TX 12 Oa12 Ov12 := says_of_C OA1_ok (prim_su num0) cl_ok Or12
theorem Or41 (p : List Fr → Bool) (sg : List Fr) : callC C0 OA1 TX.funs TX.prim 2000 337 Oa41 sg (fun v' sg' wd => ifK (veq v' Ov41) (ifK (Nat.beq wd 0) (p sg') false) false) = p sg := by kernel_rfl
theorem Os41 : SaysT TX 337 Oa41 Ov41 := says_of_C OA1_ok (prim_su num0) cl_ok Or41
theorem Or8 (p : List Fr → Bool) (sg : List Fr) : callC C0 OA1 TX.funs TX.prim 2000 28 Oa8 sg (fun v' sg' wd => ifK (veq v' Ov8) (ifK (Nat.beq wd 0) (p sg') false) false) = p sg := by kernel_rfl
theorem Os8 : SaysT TX 28 Oa8 Ov8 := says_of_C OA1_ok (prim_su num0) cl_ok Or8
theorem Or15 (p : List Fr → Bool) (sg : List Fr) : callC C0 OA1 TX.funs TX.prim 2000 179 Oa15 sg (fun v' sg' wd => ifK (veq v' Ov15) (ifK (Nat.beq wd 0) (p sg') false) false) = p sg := by kernel_rfl
theorem Os15 : SaysT TX 179 Oa15 Ov15 := says_of_C OA1_ok (prim_su num0) cl_ok Or15
end Go.Vm
