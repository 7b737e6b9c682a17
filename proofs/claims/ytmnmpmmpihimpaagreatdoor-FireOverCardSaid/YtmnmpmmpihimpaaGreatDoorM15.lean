/-
  A part of a proof: the last text of the claim says what is proved, and under which conditions.
-/
import Derived.Test.YtmnmpmmpihimpaaGreatDoorM13
set_option linter.unusedSimpArgs false
set_option linter.unusedVariables false
set_option linter.unnecessarySimpa false
/- Printed by closed2.py. -/
namespace Go.Vm
open Go
set_option maxRecDepth 1000000
theorem Or2 (p : List Fr → Bool) (sg : List Fr) : callC C0 OA1 TX.funs TX.prim 2000 12 Oa2 sg (fun v' sg' wd => ifK (veq v' Ov2) (ifK (Nat.beq wd 0) (p sg') false) false) = p sg := by kernel_rfl
theorem Os2 : SaysT TX 12 Oa2 Ov2 := says_of_C OA1_ok (prim_su num0) cl_ok Or2
theorem Or37 (p : List Fr → Bool) (sg : List Fr) : callC C0 OA1 TX.funs TX.prim 2000 12 Oa37 sg (fun v' sg' wd => ifK (veq v' Ov37) (ifK (Nat.beq wd 0) (p sg') false) false) = p sg := by kernel_rfl
theorem Os37 : SaysT TX 12 Oa37 Ov37 := says_of_C OA1_ok (prim_su num0) cl_ok Or37
theorem Or40 (p : List Fr → Bool) (sg : List Fr) : callC C0 OA1 TX.funs TX.prim 2000 337 Oa40 sg (fun v' sg' wd => ifK (veq v' Ov40) (ifK (Nat.beq wd 0) (p sg') false) false) = p sg := by kernel_rfl
theorem Os40 : SaysT TX 337 Oa40 Ov40 := says_of_C OA1_ok (prim_su num0) cl_ok Or40
theorem Or46 (p : List Fr → Bool) (sg : List Fr) : callC C0 OA1 TX.funs TX.prim 2000 95 Oa46 sg (fun v' sg' wd => ifK (veq v' Ov46) (ifK (Nat.beq wd 0) (p sg') false) false) = p sg := by kernel_rfl
theorem Os46 : SaysT TX 95 Oa46 Ov46 := says_of_C OA1_ok (prim_su num0) cl_ok Or46
end Go.Vm
