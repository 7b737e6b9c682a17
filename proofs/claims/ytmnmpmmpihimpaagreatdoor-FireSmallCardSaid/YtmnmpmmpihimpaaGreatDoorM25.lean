/-
  A part of a proof: the last text of the claim says what is proved, and under which conditions.
-/
import Derived.Test.YtmnmpmmpihimpaaGreatDoorM23
set_option linter.unusedSimpArgs false
set_option linter.unusedVariables false
set_option linter.unnecessarySimpa false
/- Printed by closed2.py. -/
namespace Go.Vm
open Go
set_option maxRecDepth 1000000
theorem Sr25 (p : List Fr → Bool) (sg : List Fr) : callC C0 SO0_1 TX.funs TX.prim 2000 7 Sa25 sg (fun v' sg' wd => ifK (veq v' Sv25) (ifK (Nat.beq wd 0) (p sg') false) false) = p sg := by kernel_rfl
theorem Ss25 (n : Int) (hn : 0 ≤ n ∧ n < 100) : SaysS TX (sgT [(.i64, n)]) 7 Sa25 Sv25 := saysS_of_C (sgT_num _) (sgT_onto _) (SO0_1_ok n hn) (primAll_su (sgT_num _) KX LX) cl_ok Sr25
theorem Sr23 (p : List Fr → Bool) (sg : List Fr) : callC C0 SO0_1 TX.funs TX.prim 2000 337 Sa23 sg (fun v' sg' wd => ifK (veq v' Sv23) (ifK (Nat.beq wd 0) (p sg') false) false) = p sg := by kernel_rfl
theorem Ss23 (n : Int) (hn : 0 ≤ n ∧ n < 100) : SaysS TX (sgT [(.i64, n)]) 337 Sa23 Sv23 := saysS_of_C (sgT_num _) (sgT_onto _) (SO0_1_ok n hn) (primAll_su (sgT_num _) KX LX) cl_ok Sr23
theorem Sr22 (p : List Fr → Bool) (sg : List Fr) : callC C0 SO0_1 TX.funs TX.prim 2000 337 Sa22 sg (fun v' sg' wd => ifK (veq v' Sv22) (ifK (Nat.beq wd 0) (p sg') false) false) = p sg := by kernel_rfl
theorem Ss22 (n : Int) (hn : 0 ≤ n ∧ n < 100) : SaysS TX (sgT [(.i64, n)]) 337 Sa22 Sv22 := saysS_of_C (sgT_num _) (sgT_onto _) (SO0_1_ok n hn) (primAll_su (sgT_num _) KX LX) cl_ok Sr22
end Go.Vm
