/-
  A part of a proof: the last text of the claim says what is proved, and under which conditions.
-/
import Derived.Test.YtjebeifjkkofaaaGreatDoorM18
set_option linter.unusedSimpArgs false
set_option linter.unusedVariables false
set_option linter.unnecessarySimpa false
/- Printed by closed2.py. -/
namespace Go.Vm
open Go
set_option maxRecDepth 1000000
theorem Tr135 (p : List Fr → Bool) (sg : List Fr) : callC C0 TA2 TX.funs TX.prim 2000 6 Ta135 sg (fun v' sg' wd => ifK (veq v' Tv135) (ifK (Nat.beq wd 0) (p sg') false) false) = p sg := by kernel_rfl
theorem Ts135 : SaysT TX 6 Ta135 Tv135 := says_of_C TA2_ok (prim_su num0) cl_ok Tr135
theorem Tr133 (p : List Fr → Bool) (sg : List Fr) : callC C0 TA2 TX.funs TX.prim 2000 15 Ta133 sg (fun v' sg' wd => ifK (veq v' Tv133) (ifK (Nat.beq wd 0) (p sg') false) false) = p sg := by kernel_rfl
theorem Ts133 : SaysT TX 15 Ta133 Tv133 := says_of_C TA2_ok (prim_su num0) cl_ok Tr133
theorem Tr92 (p : List Fr → Bool) (sg : List Fr) : callC C0 TA2 TX.funs TX.prim 2000 13 Ta92 sg (fun v' sg' wd => ifK (veq v' Tv92) (ifK (Nat.beq wd 0) (p sg') false) false) = p sg := by kernel_rfl
theorem Ts92 : SaysT TX 13 Ta92 Tv92 := says_of_C TA2_ok (prim_su num0) cl_ok Tr92
theorem Tr25 (p : List Fr → Bool) (sg : List Fr) : callC C0 TA2 TX.funs TX.prim 2000 9 Ta25 sg (fun v' sg' wd => ifK (veq v' Tv25) (ifK (Nat.beq wd 0) (p sg') false) false) = p sg := by kernel_rfl
theorem Ts25 : SaysT TX 9 Ta25 Tv25 := says_of_C TA2_ok (prim_su num0) cl_ok Tr25
theorem Tr157 (p : List Fr → Bool) (sg : List Fr) : callC C0 TA2 TX.funs TX.prim 2000 4 Ta157 sg (fun v' sg' wd => ifK (veq v' Tv157) (ifK (Nat.beq wd 0) (p sg') false) false) = p sg := by kernel_rfl
theorem Ts157 : SaysT TX 4 Ta157 Tv157 := says_of_C TA2_ok (prim_su num0) cl_ok Tr157
theorem Tr42 (p : List Fr → Bool) (sg : List Fr) : callC C0 TA2 TX.funs TX.prim 2000 4 Ta42 sg (fun v' sg' wd => ifK (veq v' Tv42) (ifK (Nat.beq wd 0) (p sg') false) false) = p sg := by kernel_rfl
theorem Ts42 : SaysT TX 4 Ta42 Tv42 := says_of_C TA2_ok (prim_su num0) cl_ok Tr42
theorem Tr76 (p : List Fr → Bool) (sg : List Fr) : callC C0 TA2 TX.funs TX.prim 2000 6 Ta76 sg (fun v' sg' wd => ifK (veq v' Tv76) (ifK (Nat.beq wd 0) (p sg') false) false) = p sg := by kernel_rfl
theorem Ts76 : SaysT TX 6 Ta76 Tv76 := says_of_C TA2_ok (prim_su num0) cl_ok Tr76
end Go.Vm
