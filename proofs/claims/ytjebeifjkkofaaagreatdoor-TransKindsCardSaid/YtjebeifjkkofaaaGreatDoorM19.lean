/-
  A part of a proof: the last text of the claim says what is proved, and under which conditions.
-/
import Derived.Test.YtjebeifjkkofaaaGreatDoorM18
set_option linter.unusedSimpArgs false
set_option linter.unusedVariables false
set_option linter.unnecessarySimpa false
/- Printed by closed2.py. -/
namespace Go.Vm
open Go
set_option maxRecDepth 1000000
theorem Tr161 (p : List Fr → Bool) (sg : List Fr) : callC C0 TA2 TX.funs TX.prim 2000 6 Ta161 sg (fun v' sg' wd => ifK (veq v' Tv161) (ifK (Nat.beq wd 0) (p sg') false) false) = p sg := by kernel_rfl
theorem Ts161 : SaysT TX 6 Ta161 Tv161 := says_of_C TA2_ok (prim_su num0) cl_ok Tr161
theorem Tr30 (p : List Fr → Bool) (sg : List Fr) : callC C0 TA2 TX.funs TX.prim 2000 6 Ta30 sg (fun v' sg' wd => ifK (veq v' Tv30) (ifK (Nat.beq wd 0) (p sg') false) false) = p sg := by kernel_rfl
theorem Ts30 : SaysT TX 6 Ta30 Tv30 := says_of_C TA2_ok (prim_su num0) cl_ok Tr30
theorem Tr14 (p : List Fr → Bool) (sg : List Fr) : callC C0 TA2 TX.funs TX.prim 2000 6 Ta14 sg (fun v' sg' wd => ifK (veq v' Tv14) (ifK (Nat.beq wd 0) (p sg') false) false) = p sg := by kernel_rfl
theorem Ts14 : SaysT TX 6 Ta14 Tv14 := says_of_C TA2_ok (prim_su num0) cl_ok Tr14
theorem Tr100 (p : List Fr → Bool) (sg : List Fr) : callC C0 TA2 TX.funs TX.prim 2000 4 Ta100 sg (fun v' sg' wd => ifK (veq v' Tv100) (ifK (Nat.beq wd 0) (p sg') false) false) = p sg := by kernel_rfl
theorem Ts100 : SaysT TX 4 Ta100 Tv100 := says_of_C TA2_ok (prim_su num0) cl_ok Tr100
theorem Tr43 (p : List Fr → Bool) (sg : List Fr) : callC C0 TA2 TX.funs TX.prim 2000 15 Ta43 sg (fun v' sg' wd => ifK (veq v' Tv43) (ifK (Nat.beq wd 0) (p sg') false) false) = p sg := by kernel_rfl
theorem Ts43 : SaysT TX 15 Ta43 Tv43 := says_of_C TA2_ok (prim_su num0) cl_ok Tr43
theorem Tr89 (p : List Fr → Bool) (sg : List Fr) : callC C0 TA2 TX.funs TX.prim 2000 4 Ta89 sg (fun v' sg' wd => ifK (veq v' Tv89) (ifK (Nat.beq wd 0) (p sg') false) false) = p sg := by kernel_rfl
theorem Ts89 : SaysT TX 4 Ta89 Tv89 := says_of_C TA2_ok (prim_su num0) cl_ok Tr89
theorem Tr90 (p : List Fr → Bool) (sg : List Fr) : callC C0 TA2 TX.funs TX.prim 2000 15 Ta90 sg (fun v' sg' wd => ifK (veq v' Tv90) (ifK (Nat.beq wd 0) (p sg') false) false) = p sg := by kernel_rfl
theorem Ts90 : SaysT TX 15 Ta90 Tv90 := says_of_C TA2_ok (prim_su num0) cl_ok Tr90
end Go.Vm
