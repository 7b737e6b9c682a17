/-
  A part of a proof: the last text of the claim says what is proved, and under which conditions.
-/
import Derived.Test.YtmnmpmmpihimpaaGreatDoorM16
set_option linter.unusedSimpArgs false
set_option linter.unusedVariables false
set_option linter.unnecessarySimpa false
/- Printed by closed2.py. -/
namespace Go.Vm
open Go
set_option maxRecDepth 1000000
theorem Or14 (p : List Fr → Bool) (sg : List Fr) : callC C0 OA2 TX.funs TX.prim 2000 6 Oa14 sg (fun v' sg' wd => ifK (veq v' Ov14) (ifK (Nat.beq wd 0) (p sg') false) false) = p sg := by kernel_rfl
theorem Os14 : SaysT TX 6 Oa14 Ov14 := says_of_C OA2_ok (prim_su num0) cl_ok Or14
theorem Or38 (p : List Fr → Bool) (sg : List Fr) : callC C0 OA2 TX.funs TX.prim 2000 6 Oa38 sg (fun v' sg' wd => ifK (veq v' Ov38) (ifK (Nat.beq wd 0) (p sg') false) false) = p sg := by kernel_rfl
theorem Os38 : SaysT TX 6 Oa38 Ov38 := says_of_C OA2_ok (prim_su num0) cl_ok Or38
theorem Or7 (p : List Fr → Bool) (sg : List Fr) : callC C0 OA2 TX.funs TX.prim 2000 6 Oa7 sg (fun v' sg' wd => ifK (veq v' Ov7) (ifK (Nat.beq wd 0) (p sg') false) false) = p sg := by kernel_rfl
theorem Os7 : SaysT TX 6 Oa7 Ov7 := says_of_C OA2_ok (prim_su num0) cl_ok Or7
end Go.Vm
