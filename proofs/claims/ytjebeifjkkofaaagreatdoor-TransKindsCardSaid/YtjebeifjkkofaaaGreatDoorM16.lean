/-
  A part of a proof: the last text of the claim says what is proved, and under which conditions.
-/
import Derived.Test.YtjebeifjkkofaaaGreatDoorM15
set_option linter.unusedSimpArgs false
set_option linter.unusedVariables false
set_option linter.unnecessarySimpa false
/- Printed by closed2.py. -/
namespace Go.Vm
open Go
set_option maxRecDepth 1000000
theorem Tr98 (p : List Fr → Bool) (sg : List Fr) : callC C0 TA1 TX.funs TX.prim 2000 10 Ta98 sg (fun v' sg' wd => ifK (veq v' Tv98) (ifK (Nat.beq wd 0) (p sg') false) false) = p sg := by kernel_rfl
theorem Ts98 : SaysT TX 10 Ta98 Tv98 := says_of_C TA1_ok (prim_su num0) cl_ok Tr98
theorem Tr64 (p : List Fr → Bool) (sg : List Fr) : callC C0 TA1 TX.funs TX.prim 2000 10 Ta64 sg (fun v' sg' wd => ifK (veq v' Tv64) (ifK (Nat.beq wd 0) (p sg') false) false) = p sg := by kernel_rfl
theorem Ts64 : SaysT TX 10 Ta64 Tv64 := says_of_C TA1_ok (prim_su num0) cl_ok Tr64
theorem Tr118 (p : List Fr → Bool) (sg : List Fr) : callC C0 TA1 TX.funs TX.prim 2000 10 Ta118 sg (fun v' sg' wd => ifK (veq v' Tv118) (ifK (Nat.beq wd 0) (p sg') false) false) = p sg := by kernel_rfl
theorem Ts118 : SaysT TX 10 Ta118 Tv118 := says_of_C TA1_ok (prim_su num0) cl_ok Tr118
theorem Tr1 (p : List Fr → Bool) (sg : List Fr) : callC C0 TA1 TX.funs TX.prim 2000 10 Ta1 sg (fun v' sg' wd => ifK (veq v' Tv1) (ifK (Nat.beq wd 0) (p sg') false) false) = p sg := by kernel_rfl
theorem Ts1 : SaysT TX 10 Ta1 Tv1 := says_of_C TA1_ok (prim_su num0) cl_ok Tr1
theorem Tr160 (p : List Fr → Bool) (sg : List Fr) : callC C0 TA1 TX.funs TX.prim 2000 31 Ta160 sg (fun v' sg' wd => ifK (veq v' Tv160) (ifK (Nat.beq wd 0) (p sg') false) false) = p sg := by kernel_rfl
theorem Ts160 : SaysT TX 31 Ta160 Tv160 := says_of_C TA1_ok (prim_su num0) cl_ok Tr160
theorem Tr48 (p : List Fr → Bool) (sg : List Fr) : callC C0 TA1 TX.funs TX.prim 2000 32 Ta48 sg (fun v' sg' wd => ifK (veq v' Tv48) (ifK (Nat.beq wd 0) (p sg') false) false) = p sg := by kernel_rfl
theorem Ts48 : SaysT TX 32 Ta48 Tv48 := says_of_C TA1_ok (prim_su num0) cl_ok Tr48
theorem Tr131 (p : List Fr → Bool) (sg : List Fr) : callC C0 TA1 TX.funs TX.prim 2000 200 Ta131 sg (fun v' sg' wd => ifK (veq v' Tv131) (ifK (Nat.beq wd 0) (p sg') false) false) = p sg := by kernel_rfl
theorem Ts131 : SaysT TX 200 Ta131 Tv131 := says_of_C TA1_ok (prim_su num0) cl_ok Tr131
theorem Tr41 (p : List Fr → Bool) (sg : List Fr) : callC C0 TA1 TX.funs TX.prim 2000 200 Ta41 sg (fun v' sg' wd => ifK (veq v' Tv41) (ifK (Nat.beq wd 0) (p sg') false) false) = p sg := by kernel_rfl
theorem Ts41 : SaysT TX 200 Ta41 Tv41 := says_of_C TA1_ok (prim_su num0) cl_ok Tr41
theorem Tr65 (p : List Fr → Bool) (sg : List Fr) : callC C0 TA1 TX.funs TX.prim 2000 200 Ta65 sg (fun v' sg' wd => ifK (veq v' Tv65) (ifK (Nat.beq wd 0) (p sg') false) false) = p sg := by kernel_rfl
theorem Ts65 : SaysT TX 200 Ta65 Tv65 := says_of_C TA1_ok (prim_su num0) cl_ok Tr65
theorem Tr119 (p : List Fr → Bool) (sg : List Fr) : callC C0 TA1 TX.funs TX.prim 2000 200 Ta119 sg (fun v' sg' wd => ifK (veq v' Tv119) (ifK (Nat.beq wd 0) (p sg') false) false) = p sg := by kernel_rfl
theorem Ts119 : SaysT TX 200 Ta119 Tv119 := says_of_C TA1_ok (prim_su num0) cl_ok Tr119
end Go.Vm
