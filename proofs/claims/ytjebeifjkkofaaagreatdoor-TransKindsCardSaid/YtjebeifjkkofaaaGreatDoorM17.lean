/-
  A part of a proof: the last text of the claim says what is proved, and under which conditions.
-/
import Derived.Test.YtjebeifjkkofaaaGreatDoorM15
set_option linter.unusedSimpArgs false
set_option linter.unusedVariables false
set_option linter.unnecessarySimpa false
/- Printed by closed2.py. -/
namespace Go.Vm
open Go
set_option maxRecDepth 1000000
theorem Tr130 (p : List Fr → Bool) (sg : List Fr) : callC C0 TA1 TX.funs TX.prim 2000 10 Ta130 sg (fun v' sg' wd => ifK (veq v' Tv130) (ifK (Nat.beq wd 0) (p sg') false) false) = p sg := by kernel_rfl
theorem Ts130 : SaysT TX 10 Ta130 Tv130 := says_of_C TA1_ok (prim_su num0) cl_ok Tr130
theorem Tr87 (p : List Fr → Bool) (sg : List Fr) : callC C0 TA1 TX.funs TX.prim 2000 10 Ta87 sg (fun v' sg' wd => ifK (veq v' Tv87) (ifK (Nat.beq wd 0) (p sg') false) false) = p sg := by kernel_rfl
theorem Ts87 : SaysT TX 10 Ta87 Tv87 := says_of_C TA1_ok (prim_su num0) cl_ok Tr87
theorem Tr74 (p : List Fr → Bool) (sg : List Fr) : callC C0 TA1 TX.funs TX.prim 2000 10 Ta74 sg (fun v' sg' wd => ifK (veq v' Tv74) (ifK (Nat.beq wd 0) (p sg') false) false) = p sg := by kernel_rfl
theorem Ts74 : SaysT TX 10 Ta74 Tv74 := says_of_C TA1_ok (prim_su num0) cl_ok Tr74
theorem Tr28 (p : List Fr → Bool) (sg : List Fr) : callC C0 TA1 TX.funs TX.prim 2000 15 Ta28 sg (fun v' sg' wd => ifK (veq v' Tv28) (ifK (Nat.beq wd 0) (p sg') false) false) = p sg := by kernel_rfl
theorem Ts28 : SaysT TX 15 Ta28 Tv28 := says_of_C TA1_ok (prim_su num0) cl_ok Tr28
theorem Tr134 (p : List Fr → Bool) (sg : List Fr) : callC C0 TA1 TX.funs TX.prim 2000 31 Ta134 sg (fun v' sg' wd => ifK (veq v' Tv134) (ifK (Nat.beq wd 0) (p sg') false) false) = p sg := by kernel_rfl
theorem Ts134 : SaysT TX 31 Ta134 Tv134 := says_of_C TA1_ok (prim_su num0) cl_ok Tr134
theorem Tr47 (p : List Fr → Bool) (sg : List Fr) : callC C0 TA1 TX.funs TX.prim 2000 31 Ta47 sg (fun v' sg' wd => ifK (veq v' Tv47) (ifK (Nat.beq wd 0) (p sg') false) false) = p sg := by kernel_rfl
theorem Ts47 : SaysT TX 31 Ta47 Tv47 := says_of_C TA1_ok (prim_su num0) cl_ok Tr47
end Go.Vm
